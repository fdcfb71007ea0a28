import PyProof.Rows.All
import Wide.All
import OpenK.AllK
import Wide.FinOn
import KE.GoesEnum
import HandS.ForMost
import HandS.ForExc
import HandS.Deep
import HandS.TupAny
import HandS.TupMul
import HandS.Zip
import HandS.TryMany
import HandS.ExcIs
import HandS.ExcField
import HandS.ExcInit
import HandS.RaiseFrom
import HandS.DictComp
import HandS.Style
import KE.SortData
import HandS.IsInst
import HandS.Small
import HandS.Head0
import HandS.Head1
import HandS.Head2
import HandS.HeadEnd
import HandS.HeadHook1
import HandS.HeadHook2
import PySem.Challenge.RW_probefoundry_k60_presses
set_option Elab.async false
set_option linter.all false
set_option maxRecDepth 100000
set_option maxHeartbeats 1000000
/-! DS0: a few rules more -/
namespace DS
open PySem PySem.Spec PyProof.Rows L2
section
variable {X : Cx}
/-! ### x in t, t a tuple -/
def rInT (K : PySem.W.Frag) : R2 := fun x y H Q => ∃ d ds, Dp K H x d ∧ Dp K H y (.tuple ds) ∧ SeqAt.shaped d = true ∧ SeqAt.shaped (.tuple ds) = true ∧ Q (.bl (ds.any fun z => PyData.eqv z d)) H
def rNotInT (K : PySem.W.Frag) : R2 := fun x y H Q => ∃ d ds, Dp K H x d ∧ Dp K H y (.tuple ds) ∧ SeqAt.shaped d = true ∧ SeqAt.shaped (.tuple ds) = true ∧ Q (.bl (!ds.any fun z => PyData.eqv z d)) H
theorem op_inT (hu : X.A.units + 65 < cLine) : OpR X (compareOp .In) (rInT X.K) := by
  intro pins s σ H x y v u Q I rx ry ⟨d, ds, hd, he, sd, se, q⟩
  obtain ⟨as, r1⟩ := Dp.reads I d x v hd rx
  obtain ⟨bs, r2⟩ := Dp.reads I (.tuple ds) y u he ry
  exact SeqAt.in_tuple_reads r2 r1 (SeqAt.canLay_of_shaped se) (SeqAt.canLay_of_shaped sd) (room_in_shaped sd hu) ⟨.bl _, H, I, rfl, q⟩
theorem op_notInT (hu : X.A.units + 65 < cLine) : OpR X (compareOp .NotIn) (rNotInT X.K) := by
  intro pins s σ H x y v u Q I rx ry ⟨d, ds, hd, he, sd, se, q⟩
  obtain ⟨as, r1⟩ := Dp.reads I d x v hd rx
  obtain ⟨bs, r2⟩ := Dp.reads I (.tuple ds) y u he ry
  exact SeqAt.notIn_tuple_reads r2 r1 (SeqAt.canLay_of_shaped se) (SeqAt.canLay_of_shaped sd) (room_in_shaped sd hu) ⟨.bl _, H, I, rfl, q⟩
/-! ### t * k, any k -/
theorem tuple_mul1 (l : Addr) (items : Array Value) (n : Nat) (dd : Option Addr) (sl : Array (Option Value)) (u : Tok) :
    Meets (Builtin.«tuple.__mul__» ⟨[.ref l, .int 1 u], []⟩) (fun _ R s => s.heap.get? l = some { cls := .type "tuple", dict := dd, data := .seq items n, slots := sl } ∧ R (.ok (.ret (Value.ref l))) s) :=
  .of_wp fun prog w A R s h => by
    obtain ⟨hp, g, d, tk, os⟩ := s
    obtain ⟨hl, h⟩ := h
    have f1 := AutoSeq1.idx_int
    wp_walk using wpAny_loadPart' hl
    exact ⟨_, rfl, h⟩
theorem tuple_mul0 (l : Addr) (items : Array Value) (n : Nat) (dd : Option Addr) (sl : Array (Option Value)) (x : Int) (u : Tok) (hx : x ≤ 0) (hx2 : -(2 ^ 63) ≤ x) (hi : items.isEmpty = false) :
    Meets (Builtin.«tuple.__mul__» ⟨[.ref l, .int x u], []⟩) (fun _ R s => s.heap.get? l = some { cls := .type "tuple", dict := dd, data := .seq items n, slots := sl } ∧ R (.ok (.ret (Value.ref s.heap.objs.size))) { s with heap := s.heap.push { cls := Value.type "tuple", data := Data.seq #[] } }) :=
  .of_wp fun prog w A R s h => by
    obtain ⟨hp, g, d, tk, os⟩ := s
    obtain ⟨hl, h⟩ := h
    have f1 := AutoSeq1.idx_int
    have c0 : (decide (x < -(2 ^ 63)) || decide (x ≥ 2 ^ 63)) = false := by
      rw [decide_eq_false (by omega), decide_eq_false (by omega)]; rfl
    have c1 : (items.isEmpty || x == 1) = false := by
      rw [hi, Bool.false_or]; exact beq_eq_false_iff_ne.mpr (by omega)
    have c2 : (decide (x ≤ 0) || items.isEmpty) = true := by rw [decide_eq_true hx]; rfl
    wp_walk using wpAny_loadPart' hl
    repeat (first
      | (refine wpAny_ite_false (decide_eq_false (by rw [c0]; exact Bool.false_ne_true)) ?_; wp_walk using wpAny_loadPart' hl)
      | (refine wpAny_ite_false (decide_eq_false (by rw [c1]; exact Bool.false_ne_true)) ?_; wp_walk using wpAny_loadPart' hl)
      | (refine wpAny_ite_true (decide_eq_true (by rw [c2])) ?_; wp_walk using wpAny_loadPart' hl))
    exact ⟨_, rfl, h⟩
def rRepA (K : PySem.W.Frag) : R2 := fun x y H Q => ∃ l k xs, x = .ref l ∧ y = .int k ∧ SqT K H l xs ∧ xs ≠ [] ∧ -1000 ≤ k ∧ k ≤ 1000 ∧ xs.length ≤ 1000 ∧ (k = 1 → Q (.ref l) H) ∧ (k ≠ 1 → ∀ p, H p = none → Q (.ref p) (upd H p (.tup (List.replicate k.toNat xs).flatten)))
theorem op_repA : OpR X (binaryOp .Mult) (rRepA X.K) := by
  intro pins s σ H x y v u Q I rx ry ⟨l, k, xs, ex, ey, hT, hne, h0, h1, hz, q1, q2⟩
  by_cases h2 : 2 ≤ k
  · exact op_repT pins s σ H x y v u Q I rx ry ⟨l, k, xs, ex, ey, hT, hne, h2, h1, hz, q2 (by omega)⟩
  subst ex ey
  cases rx
  obtain ⟨t, rfl⟩ := ry
  obtain ⟨its, r, ⟨⟨cls, dd, data, sl⟩, ho, hc, n, hd⟩, hs⟩ := I.tuple hT
  simp only at hc hd
  subst hc hd
  have hi : its.toArray.isEmpty = false := by
    cases its with
    | nil => cases r; exact absurd rfl hne
    | cons a b => rfl
  by_cases hk : k = 1
  · subst hk
    refine wpAny_binaryOp_repeat_ref (T := "tuple") (U := "int") (by decide) ⟨_, ho, rfl⟩ (fun s' => typeIs_int s' 1 t) noFill_tuple_mul F.fills_int_mul F.slot_int_rmul repeat_tuple F.slot_int_index.lookup
      (call_meets F.slot_int_rmul (typeIs_int s 1 t) F.entry_int_rmul (F.args_int_rmul_2 _ _) (int_rmul_tuple 1 t l its.toArray n dd sl)
        ⟨ho, rfl, ⟨_, ho, rfl⟩, call_meets F.slot_tuple_mul ⟨_, ho, rfl⟩ F.entry_tuple_mul (F.args_tuple_mul_2 _ _) (tuple_mul1 l its.toArray n dd sl t) ⟨ho, ?_⟩⟩)
    exact ⟨.ref l, H, I, rfl, q1 rfl⟩
  · refine wpAny_binaryOp_repeat_ref (T := "tuple") (U := "int") (by decide) ⟨_, ho, rfl⟩ (fun s' => typeIs_int s' k t) noFill_tuple_mul F.fills_int_mul F.slot_int_rmul repeat_tuple F.slot_int_index.lookup
      (call_meets F.slot_int_rmul (typeIs_int s k t) F.entry_int_rmul (F.args_int_rmul_2 _ _) (int_rmul_tuple k t l its.toArray n dd sl)
        ⟨ho, rfl, ⟨_, ho, rfl⟩, call_meets F.slot_tuple_mul ⟨_, ho, rfl⟩ F.entry_tuple_mul (F.args_tuple_mul_2 _ _) (tuple_mul0 l its.toArray n dd sl k t (by omega) (by omega) hi) ⟨ho, ?_⟩⟩)
    have e : (List.replicate k.toNat xs).flatten = [] := by rw [show k.toNat = 0 by omega]; rfl
    rw [e] at q2
    refine ⟨.ref s.heap.objs.size, _, I.laid (t' := s.toks) (o := .tup []) (fun b ob q => Heap.get?_push_of_some _ q) (Nat.le_refl _) ?_, rfl, q2 hk _ (I.hok.fresh (Nat.le_refl _))⟩
    exact ⟨Nat.zero_le _, [], .nil, IsTup.new _ _⟩
/-! ### xs[i] as it is read by xs[i] op= e -/
theorem pg_list : PGet X (rIxL X.K) := by
  intro pins s σ H x y v u Q I rx ry h
  obtain ⟨p, xs, i, z, rfl, rfl, hq, he, q⟩ := h
  cases rx
  obtain ⟨t, rfl⟩ := ry
  obtain ⟨its, r, pl, hz⟩ := I.list hq
  obtain ⟨j, h1, h2, h3, h4, h5⟩ := atI_get he
  obtain ⟨w, ew, rw'⟩ := r.get h2
  have hl := r.length
  have hn := line63
  have fin : EP X pins σ Q w s := ⟨z, H, I, rw', q⟩
  by_cases h0 : 0 ≤ i
  · have hj : i.toNat = j := by
      rw [seqIndex_of h0 h5] at h1
      exact Option.some.inj h1
    exact wpAny_getItem_list pl.isList h0 (by omega) (by rw [hj]; simpa using ew) fin
  · have hj : (i + (its.toArray.size : Int)).toNat = j := by
      rw [seqIndex_neg (by omega) h4] at h1
      rw [List.size_toArray, ← hl]
      exact Option.some.inj h1
    exact wpAny_getItem_list_neg pl.isList (by omega) (by rw [List.size_toArray] <;> omega) (by omega) (by rw [hj]; simpa using ew) fin
/-! ### enumerate(t), t a tuple -/
theorem meets_enumerate_newT (l : Addr) (items : Array Value) :
    Meets (Builtin.«enumerate.__new__» ⟨[.type "enumerate", .ref l], []⟩) (fun _ R s => s.heap.IsTuple l items ∧
      R (.ok (.ret (.ref (s.heap.push { cls := .type "tuple_iterator", data := .fields #[.ref l, .int 0 0] }).objs.size)))
        { s with heap := (s.heap.push { cls := .type "tuple_iterator", data := .fields #[.ref l, .int 0 0] }).push { cls := .type "enumerate", data := .fields #[.none, .bool false, .ref s.heap.objs.size, rawInt 0, .none, .none] } }) :=
  .of_wp fun prog w A R s h => by
    obtain ⟨hp, g, d, tk, os⟩ := s; obtain ⟨hl, h⟩ := h
    have hsub := sub_enumerate
    wp_walk
    refine wpAny_stack_any fun st => wpAny_pure ?_
    split
    · rename_i c _ _ _ _ _
      cases (c == Value.type "enumerate")
      · wp_walk using wpAny_pyIter_tuple hl
        exact ⟨_, rfl, h⟩
      · wp_walk using wpAny_pyIter_tuple hl
        exact ⟨_, rfl, h⟩
    · wp_walk using wpAny_pyIter_tuple hl
      exact ⟨_, rfl, h⟩
theorem call_enumerate_tuple {prog : Program} {w : World} {A : Around} {E : Value → Shared → Prop} {s : Shared} {l : Addr} {items : Array Value} {Q : Value → Shared → Prop} (hL : s.heap.IsTuple l items)
    (h : ∀ h', IsEnum h' (s.heap.objs.size + 1) s.heap.objs.size 0 .none → h'.IsTupleIter s.heap.objs.size l 0 → h'.objs.size = s.heap.objs.size + 2 →
      (∀ b o, s.heap.get? b = some o → h'.get? b = some o) → Q (.ref (s.heap.objs.size + 1)) { s with heap := h' }) :
    wpAny (model prog w) A (call (.type "enumerate") [.ref l]) Q E s := by
  refine callType_new F.called_enumerate (by decide) (F.typeCall_enumerate_1 _) (F.newCall_enumerate_1 _) (fun obj => F.args_object_init_2 obj _) F.entry_enumerate_new (meets_enumerate_newT l items) ⟨hL, ?_⟩
  have hz : (s.heap.push { cls := .type "tuple_iterator", data := .fields #[.ref l, .int 0 0] }).objs.size = s.heap.objs.size + 1 := Heap.size_push ..
  show _ ∧ _
  rw [hz]
  have hE : IsEnum ((s.heap.push { cls := .type "tuple_iterator", data := .fields #[.ref l, .int 0 0] }).push
      { cls := .type "enumerate", data := .fields #[.none, .bool false, .ref s.heap.objs.size, rawInt 0, .none, .none] }) (s.heap.objs.size + 1) s.heap.objs.size 0 .none := by
    have q := Heap.get?_push_size (s.heap.push { cls := .type "tuple_iterator", data := .fields #[.ref l, .int 0 0] })
      (o := { cls := .type "enumerate", data := .fields #[.none, .bool false, .ref s.heap.objs.size, rawInt 0, .none, .none] }) rfl
    rw [hz] at q; exact q
  exact ⟨⟨_, hE, rfl⟩, h _ hE ⟨_, Heap.get?_push_of_some _ (Heap.get?_push_size _ rfl), rfl, rfl⟩ (by rw [Heap.size_push, hz]) fun b o x => Heap.get?_push_of_some _ (Heap.get?_push_of_some _ x)⟩
/-- the tuple at a, the items in new pairs -/
def Itet (K : PySem.W.Frag) (a : Addr) : It :=
  ⟨fun i H => ∃ (xs : List V) (x : V), SqT K H a xs ∧ xs[i]? = some x, fun i H v H' => ∃ T x, v = .ref T ∧ H T = none ∧ H' = upd H T (.tup [.int (i : Nat), x]) ∧ ∀ xs, SqT K H a xs → xs[i]? = some x,
    fun i H => ∃ xs : List V, SqT K H a xs ∧ xs.length = i⟩
theorem tup_obj {h : Heap} {a : Addr} {its : Array Value} (p : IsTup h a its) : ∃ o, h.get? a = some o ∧ o.cls = .type "tuple" := by
  obtain ⟨o, e, c, n, d⟩ := p
  exact ⟨o, e, c⟩
theorem turn_enumT {P : Program} {w : World} {K : PySem.W.Frag} {elts : List Expr} {kk : Nat} {tpos : Pos} (a e it : Addr) :
    Turn P w K (.Tuple elts kk tpos) (Itet K a) [e, it] e (fun i h => (∃ old, IsEnum h e it ((i : Nat) : Int) old) ∧ h.IsTupleIter it a i ∧ e ≠ it) where
  mem := by simp
  obj := fun i h st b hb => by
    obtain ⟨⟨old, hE⟩, ⟨o, ho, hc, hd⟩, _⟩ := st
    have e' : b = e ∨ b = it := by simpa using hb
    rcases e' with z | z
    · rw [z]; exact ⟨_, hE, fun v q => nomatch q⟩
    · rw [z]; exact ⟨o, ho, fun v q => by rw [hd] at q; cases q⟩
  keep := fun i h h' st k => let ⟨⟨old, hE⟩, hi, hne⟩ := st; ⟨⟨old, k e (by simp) _ hE⟩, hi.at fun o q => k it (by simp) o q, hne⟩
  item := by
    intro X hP hw hK hc i pins s σ H E I hf st hg
    subst hP hw hK
    obtain ⟨⟨old, hE⟩, hit, hne⟩ := st
    obtain ⟨xs, x, hq, hx⟩ := hg
    obtain ⟨its, rv, p, hz⟩ := I.tuple hq
    obtain ⟨u, hu, ru⟩ := rv.get hx
    have hel : e < s.heap.objs.size := Heap.lt_size hE
    have hil : it < s.heap.objs.size := by obtain ⟨_, q, _⟩ := hit; exact Heap.lt_size q
    have hat : a ≠ it := fun z => by
      obtain ⟨o, q1, q2⟩ := tup_obj p
      obtain ⟨o', q3, q4, _⟩ := hit
      rw [z, q3] at q1; cases q1; rw [q4] at q2; injection q2 with q5; exact absurd q5 (by decide)
    have hae : a ≠ e := fun z => by
      obtain ⟨o, q1, q2⟩ := tup_obj p
      rw [z, hE] at q1; cases q1; injection q2 with q5; exact absurd q5 (by decide)
    have hiu : its.toArray[i]? = some u := by simpa using hu
    refine wpAny_pyNext_enum_itemC (n := its.toArray.size) (Draws.tuple (A := X.A.in1) (show X.A.in1.handled = none from I.ok.hd hc) it a hat its.toArray) hE ⟨hit, p⟩ (Array.getElem?_eq_some_iff.mp hiu).1 hne (by simp [hne, Ne.symm hae]) fun x' h' tk hx' ho hit' hT hsz hk => ?_
    obtain rfl : u = x' := Option.some.inj (hiu.symm.trans hx')
    refine ⟨_, rfl, wpAny_letOwnedTupleGo_enum (s := { s with heap := h', toks := tk + 1 }) ho fun h'' he' sb => ?_⟩
    have hT2 : h''.get? s.heap.objs.size = some { cls := .type "tuple", data := .seq #[.int i tk, u] } := (sb.2 _ (Nat.ne_of_gt hel)).trans hT
    have new : ObjOk X.prog X.w (upd H s.heap.objs.size (.tup [.int (i : Nat), x])) h'' s.heap.objs.size (.tup [.int (i : Nat), x]) :=
      ⟨by show 2 ≤ sizeLine; decide, [.int i tk, u], .cons ⟨_, rfl⟩ (.cons ru .nil), ⟨_, hT2, rfl, _, rfl⟩⟩
    have I1 : Inv X pins σ (upd H s.heap.objs.size (.tup [.int (i : Nat), x])) { s with heap := h'', toks := tk + 1 } :=
      I.turnedNew (ch := [e, it]) (fun b ob hb q => (sb.2 b (fun z => hb (by simp [z]))).trans (hk b ob (fun z => hb (by simp [z])) (fun z => hb (by simp [z])) q)) hf (Nat.le_refl _) new
    refine ⟨.ref s.heap.objs.size, _, I1, rfl, ⟨_, x, rfl, I.hok.fresh (Nat.le_refl _), rfl, fun ys hy => by rw [I.tuple_inj hy hq]; exact hx⟩, ⟨⟨u, ?_⟩, hit'.1.at fun o q => (sb.2 it (Ne.symm hne)).trans q, hne⟩, fun b hb => ?_⟩
    · have e1 : ((i + 1 : Nat) : Int) = (i : Int) + 1 := by omega
      rw [e1]; exact he'
    · have hb' : b < s.heap.objs.size := by
        have e' : b = e ∨ b = it := by simpa using hb
        rcases e' with z | z
        · rw [z]; exact hel
        · rw [z]; exact hil
      rw [upd_ne (Nat.ne_of_lt hb')]
      exact (hf b hb).1
  done := by
    intro X hP hw hK hc i pins s σ H E I hf st hg
    subst hP hw hK
    obtain ⟨⟨old, hE⟩, hit, hne⟩ := st
    obtain ⟨xs, hq, hx⟩ := hg
    obtain ⟨its, rv, p, hz⟩ := I.tuple hq
    obtain ⟨f0, f1, f2, f3, f4, f5⟩ := hf it (by simp)
    have hl := rv.length
    have hat : a ≠ it := fun z => by
      obtain ⟨o, q1, q2⟩ := tup_obj p
      obtain ⟨o', q3, q4, _⟩ := hit
      rw [z, q3] at q1; cases q1; rw [q4] at q2; injection q2 with q5; exact absurd q5 (by decide)
    have hi : i = its.toArray.size := by rw [List.size_toArray]; omega
    rw [hi] at hE hit
    exact wpAny_pyNext_enum_endD (Draws.tuple (A := X.A.in1) (show X.A.in1.handled = none from I.ok.hd hc) it a hat its.toArray) hE ⟨hit, p⟩ fun h' eb => ⟨rfl, I.turned (t' := s.toks) (fun b o hb q => eb b o hb q) f0 f1 f3 f4 f5⟩
  self := fun A i s Q E st h => let ⟨⟨_, hE⟩, _⟩ := st; wpAny_pyIter_enum hE h
def iEnumA (K : PySem.W.Frag) (ta : TA) : TI := fun σ H R => ta σ H fun vs H1 => ∃ a xs, vs = [.ref a] ∧ ((SqL K H1 a xs ∧ R (Ite K a) H1) ∨ (SqT K H1 a xs ∧ R (Itet K a) H1))
theorem pi_enumA {e : Expr} {ta : TA} {p pos tpos : Pos} {elts : List Expr} {kk : Nat} (hg : Gl X "enumerate") (hm : X.mg "enumerate" = none) (ha : PA X [e] ta) (hs : starEach [e] X.env = [(false, eval e X.env)] := by rfl) :
    PI X (.Tuple elts kk tpos) (.Call (.Name "enumerate" p) [e] [] pos) (iEnumA X.K ta) := by
  refine ⟨fun pins s σ H R I h => ?_⟩
  refine Call_ (ld_blt I hg hm boot_enumerate (PyProof.Rows.callWith_type1 (thn (ha.run pos pins s σ H _ I h) fun us s1 ⟨vs, H1, I1, r1, q1⟩ => ?_) hs rfl))
  obtain ⟨a, xs, ex, q⟩ := q1
  subst ex
  cases r1 with
  | cons r rr =>
    cases rr
    cases r
    rcases q with ⟨hq, q⟩ | ⟨hq, q⟩
    · obtain ⟨its, rv, p', hz⟩ := I1.list hq
      refine call_enumerate_list p'.isList fun h' hE hit hsz hk => wpAny_pyIter_enum hE ?_
      have I2 : Inv X pins σ H1 { s1 with heap := h' } := I1.kept (t' := s1.toks) hk
      refine ⟨s1.heap.objs.size + 1, [s1.heap.objs.size + 1, s1.heap.objs.size], _, _, H1, rfl, I2, turn_enum a (s1.heap.objs.size + 1) s1.heap.objs.size, ⟨⟨.none, hE⟩, hit, Nat.succ_ne_self _⟩, fun b hb => ?_, q⟩
      have e' : b = s1.heap.objs.size + 1 ∨ b = s1.heap.objs.size := by simpa using hb
      have hle : s1.heap.objs.size ≤ b := by
        rcases e' with z | z
        · rw [z]; exact Nat.le_add_right _ _
        · rw [z]; exact Nat.le_refl _
      exact I1.fpOk hle (I1.hok.fresh hle)
    · obtain ⟨its, rv, p', hz⟩ := I1.tuple hq
      refine call_enumerate_tuple p' fun h' hE hit hsz hk => wpAny_pyIter_enum hE ?_
      have I2 : Inv X pins σ H1 { s1 with heap := h' } := I1.kept (t' := s1.toks) hk
      refine ⟨s1.heap.objs.size + 1, [s1.heap.objs.size + 1, s1.heap.objs.size], _, _, H1, rfl, I2, turn_enumT a (s1.heap.objs.size + 1) s1.heap.objs.size, ⟨⟨.none, hE⟩, hit, Nat.succ_ne_self _⟩, fun b hb => ?_, q⟩
      have e' : b = s1.heap.objs.size + 1 ∨ b = s1.heap.objs.size := by simpa using hb
      have hle : s1.heap.objs.size ≤ b := by
        rcases e' with z | z
        · rw [z]; exact Nat.le_add_right _ _
        · rw [z]; exact Nat.le_refl _
      exact I1.fpOk hle (I1.hok.fresh hle)
theorem subscriptTail_any {prog : Program} {w : World} {A : Around} {E : Value → Shared → Prop} {s : Shared} {value slice : Expr} {o i : Value} {T id : String} {Q : Value → Shared → Prop} (hT : s.TypeIs o T)
    (hl : typeLookup (.type T) "__getitem__" = pure (some (.builtin id))) (h : wpAny (model prog w) A (getItem o i) Q E s) (hs : subscripted slice false o i = operate [o, i] (getItem o i)) : wpAny (model prog w) A (subscriptTail value slice o i) Q E s := by
  have fin : wpAny (model prog w) A (subscripted slice false o i) (fun r s₃ => wpAny (model prog w) A (letTemporaryGo value o r >>= fun _ => pure r) Q E s₃) E s := by
    rw [hs]
    exact wpAny_operating (wpAny_mono h (fun r s₃ h₃ => wpAny_bind (wpAny_letTemporaryGo (wpAny_pure h₃))) fun _ _ x => x)
  unfold subscriptTail
  rw [getitemInPython_of_ne hT.not_modules]
  refine wpAny_bind (wpAny_bind (wpAny_specialOf hT hl ?_))
  first | exact wpAny_pure (wpAny_bind fin) | exact wpAny_bind (wpAny_pure (wpAny_bind fin)) | exact wpAny_bind fin
end
end DS
/-! ### try with several clauses, named or not -/
namespace DS
open PySem PySem.Spec PyProof.Rows L2
abbrev Clause := Value × Option Nat × (Addr → Value → Option Addr → TS)
def endsAs (i : Nat) (D : Ends) : Ends := ⟨fun σ' H' => D.nx (σ'.set i none) H', D.rt, fun σ' H' => D.bk (σ'.set i none) H', fun σ' H' => D.ct (σ'.set i none) H'⟩
/-- what the clauses wish of an exception of the body -/
def wGen (K : PySem.W.Frag) (Wout : WX) (D : Ends) : List Clause → WX
  | [] => Wout
  | (c, none, ts) :: r => fun cls d σ H => ∃ b, PySem.W.exmOne K cls c = some b ∧ (b = true → ∀ a, H a = none → ts a cls d D σ H) ∧ (b = false → wGen K Wout D r cls d σ H)
  | (c, some i, ts) :: r => fun cls d σ H => ∃ b, PySem.W.exmOne K cls c = some b ∧ (b = true → ∀ a, H a = none → ts a cls d (endsAs i D) (σ.set i (some (.ref a))) H) ∧ (b = false → wGen K Wout D r cls d σ H)
inductive ClausesOk (X : Cx) : List ExceptHandler → List Clause → Prop
  | nil : ClausesOk X [] []
  | bare {x : Str} {c : Value} {ts : Addr → Value → Option Addr → TS} {b₀ : Stmt} {su : List Stmt} {np p' : Pos} {hds : List ExceptHandler} {l : List Clause} (hc : Names X x c)
      (hsu : ∀ (a : Addr) (oe : Obj) (cls : Value) (d : Option Addr) (pn : List (Addr × Obj)), Zc cls d oe → (∃ vs, oe.data = .fields vs) → PSs (X.suite a ((a, oe) :: pn)) (b₀ :: su) (ts a cls d)) (r : ClausesOk X hds l) :
      ClausesOk X (.ExceptHandler (some (.Name x np)) none (b₀ :: su) p' :: hds) ((c, none, ts) :: l)
  | named {x n : Str} {i : Nat} {c : Value} {ts : Addr → Value → Option Addr → TS} {b₀ : Stmt} {su : List Stmt} {np p' : Pos} {hds : List ExceptHandler} {l : List Clause} (hc : Names X x c) (hi : X.N[i]? = some n) (hln : X.env.kindOf n = some .local)
      (hsu : ∀ (a : Addr) (oe : Obj) (cls : Value) (d : Option Addr) (pn : List (Addr × Obj)), Zc cls d oe → (∃ vs, oe.data = .fields vs) → PSs (X.suite a ((a, oe) :: pn)) (b₀ :: su) (ts a cls d)) (r : ClausesOk X hds l) :
      ClausesOk X (.ExceptHandler (some (.Name x np)) (some n) (b₀ :: su) p' :: hds) ((c, some i, ts) :: l)
section
variable {X : Cx} {body : List Stmt} {h₀ : ExceptHandler} {hds : List ExceptHandler} {l : List Clause} {pos : Pos} {tb : WX → TS} {Wout : WX}
theorem ps_try_gen (hs : X.stack = X.env :: X.outer) (hf : X.env.frame = some X.env.locals) (hN : X.N.Nodup) (tk : Takes X Wout)
    (hb : ∀ (W : WX) (pn : List (Addr × Obj)) (xe : Value → Shared → Prop), Takes (X.tr pn xe) W → PassesOwn (model X.prog X.w) X.A X.env xe → PSs (X.tr pn xe) body (tb W))
    (hh : ClausesOk X (h₀ :: hds) l) : PS X (.Try body (h₀ :: hds) [] [] pos) (fun D σ H => tb (wGen X.K Wout D l) D σ H) := by
  refine ⟨fun pp s0 σ H D I hyp => ?_⟩
  have okX := I.ok
  have frX : X.A.frames = some (X.env :: X.outer) := by rw [okX.frames, hs]
  refine wpAny_Try_except ?_
  refine wpAny_mono ((hb (wGen X.K Wout D l) (X.pn ++ pp) (fun e sa => wpAny (model X.prog X.w) X.A (noteFrame e X.env) (fun _ sb => wpAny (model X.prog X.w) X.A (setFlight e none) (fun _ sc =>
    wpAny (model X.prog X.w) X.A (handleBy e X.env (h₀ :: hds)) (SP X pp D) X.xe sc) X.xe sb) X.xe sa) (fun u se caught => ?_) PassesOwn.looking).run [] s0 σ H D (I.toTry _) hyp) (fun f s1 went => ?_) (fun e s1 he => he)
  · obtain ⟨a, B, sI, pq, σe, He, cls, d, rfl, Jt, nb, upE, skyE, na, osE, agE, wish⟩ := caught
    have J : Inv X pp σe He sI := Jt.ofTry okX
    have skyF : Sky B (X.env :: X.outer) a (Zc cls d) X.env.locals se.heap := by rw [← hs]; exact skyE
    show wpAny (model X.prog X.w) X.A (noteFrame (.ref a) X.env) _ _ _
    refine Sky.land Zc.steady frX hf skyF fun hA flA upA => ?_
    have JA : Inv X pp σe He { se with heap := hA } := J.landed nb flA.1 (upE.trans upA) osE agE
    obtain ⟨oA, vA, eA, zA, dA⟩ := flA.there
    have aFr : a ∉ frs (X.env :: X.outer) := fun hm => by
      obtain ⟨_, o', e', hnf⟩ := flA.2.2.1.mem hm
      rw [eA] at e'; cases e'
      exact hnf _ dA
    have aL : a ≠ X.env.locals := fun z => aFr (List.mem_filterMap.mpr ⟨X.env, List.mem_cons_self, by rw [hf, z]⟩)
    have aF : a ∉ X.fs := fun hm => by
      obtain ⟨e, he, q⟩ := List.mem_filterMap.mp hm
      exact aFr (List.mem_filterMap.mpr ⟨e, List.mem_cons_of_mem _ he, q⟩)
    have SA := JA.suite eA dA na aL aF
    have testC : ∀ {x : Str} {c : Value} {np : Pos} {Q : Value → Shared → Prop} {E : Value → Shared → Prop}, Names X x c → Q c { se with heap := hA } → wpAny (model X.prog X.w) (X.A.mark (some (.ref a))) (eval (.Name x np) X.env) Q E { se with heap := hA } := fun {x c np Q E} hc q => by
      obtain ⟨hg, hdbg, hm | ⟨hm, hv, hnn⟩⟩ := hc
      · exact ld_glob (X := X.suite a ((a, oA) :: (X.pn ++ pp))) SA hg hm q hdbg
      · exact ld_blt (X := X.suite a ((a, oA) :: (X.pn ++ pp))) SA hg hm hv q hnn hdbg
    have matchC : ∀ {c : Value} {b : Bool}, PySem.W.exmOne X.K cls c = some b → PySem.W.Looks (model X.prog X.w) hA (excMatches (.ref a) c) b := fun {c b} hb1 =>
      PySem.W.exm_one (M := model X.prog X.w) JA.kIn (fun A Q E s k q => wpAny_typeOf_ref (k _ _ eA) (by rw [zA.1]; exact q)) hb1
    have go : ∀ {hds' : List ExceptHandler} {l' : List Clause}, ClausesOk X hds' l' → wGen X.K Wout D l' cls d σe He →
        wpAny (model X.prog X.w) X.A (handleBy (.ref a) X.env hds') (SP X pp D) X.xe { se with heap := hA } := by
      intro hds' l' hk
      induction hk with
      | nil =>
        intro wz
        refine wpAny_handleBy_nil ?_
        obtain ⟨k1, k2, k3, oe, vs, T, oT, ts', he, hz, hd, h1, hr⟩ := id flA
        unfold PySem.passOn
        refine wpAny_bind (wpAny_field he hd h1 ?_)
        rw [if_neg (show ¬ ((Value.ref T == Value.none) = true) from by simp)]
        have onward : wpAny (model X.prog X.w) X.A (setFlight (.ref a) X.env.frame) (fun _ sz => wpAny (model X.prog X.w) X.A (throw (.ref a) : Sem Flow) (SP X pp D) X.xe sz) X.xe { se with heap := hA } := by
          rw [hf]
          refine HandSPX.setFlight_upZ flA fun hB hh4 upB => wpAny_throw (tk _ _ ?_)
          exact ⟨a, B, sI, pp, σe, He, cls, d, rfl, J, nb, (upE.trans upA).trans upB, .inr (.inr (by rw [hs]; exact hh4)), na, osE, agE, wz⟩
        first | exact wpAny_bind (wpAny_pure (wpAny_bind onward)) | exact wpAny_bind onward
      | @bare x c ts b₀ su np p' hds2 l2 hc hsu r ih =>
        intro wz
        obtain ⟨b, hb1, hyes, hno⟩ := wz
        refine wpAny_handleBy_cons (codeAny_handlers_test ?_) (by intro q; cases q)
        refine testC hc ((matchC hb1).here ?_)
        cases b with
        | false => exact ih (hno rfl)
        | true =>
          refine codeAny_handlers_suite ?_
          refine HandSPX.lands_againZ flA fun hB flB upB => ?_
          have JB : Inv X pp σe He { se with heap := hB } := J.landed nb flB.1 ((upE.trans upA).trans upB) osE agE
          obtain ⟨oB, vB, eB, zB, dB⟩ := flB.there
          have SB := JB.suite eB dB na aL aF
          refine wpAny_mono ((hsu a oB cls d (X.pn ++ pp) zB ⟨_, dB⟩).run [] _ _ He _ SB (hyes rfl a na)) (fun f sz hsp => ?_) (fun _ _ z => False.elim z)
          cases f with
          | ret u => obtain ⟨vz, σz, Hz, Sz, rz, qz⟩ := hsp; exact ⟨_, _, _, Sz.unsuite okX, rz, qz⟩
          | next => obtain ⟨σz, Hz, Sz, qz⟩ := hsp; exact ⟨_, _, Sz.unsuite okX, qz⟩
          | brk => obtain ⟨σz, Hz, Sz, qz⟩ := hsp; exact ⟨_, _, Sz.unsuite okX, qz⟩
          | cont => obtain ⟨σz, Hz, Sz, qz⟩ := hsp; exact ⟨_, _, Sz.unsuite okX, qz⟩
      | @named x n i c ts b₀ su np p' hds2 l2 hc hi hln hsu r ih =>
        intro wz
        obtain ⟨b, hb1, hyes, hno⟩ := wz
        refine wpAny_handleBy_cons (codeAny_handlers_test ?_) (by intro q; cases q)
        refine testC hc ((matchC hb1).here ?_)
        cases b with
        | false => exact ih (hno rfl)
        | true =>
          refine codeAny_handlers_suite_as ?_
          refine HandSPX.lands_againZ flA fun hB flB upB => ?_
          have JB : Inv X pp σe He { se with heap := hB } := J.landed nb flB.1 ((upE.trans upA).trans upB) osE agE
          obtain ⟨oB, vB, eB, zB, dB⟩ := flB.there
          have SB := JB.suite eB dB na aL aF
          refine store_ok (X := X.suite a ((a, oB) :: (X.pn ++ pp))) (v := .ref a) SB hN hi (.inl hln) rfl (fun sc SC => ?_) (.inr hln)
          refine wpAny_mono ((hsu a oB cls d (X.pn ++ pp) zB ⟨_, dB⟩).run [] sc _ He _ SC (hyes rfl a na)) (fun f sz hsp => ?_) (fun _ _ z => False.elim z)
          have behind : ∀ {σz : L2.St} {Hz : Hp} {Q : Shared → Prop}, Inv (X.suite a ((a, oB) :: (X.pn ++ pp))) [] σz Hz sz → (∀ s7, Inv X pp (σz.set i none) Hz s7 → Q s7) →
              wpAny (model X.prog X.w) X.A (do bindName X.env n .none; unbindBehindTheSuite X.env n p') (fun _ s7 => Q s7) X.xe sz := fun {σz Hz Q} Sz hq => gone_ok (Sz.unsuite okX) hN hi hln hq
          cases f with
          | ret u => obtain ⟨vz, σz, Hz, Sz, rz, qz⟩ := hsp; exact behind Sz fun s7 J7 => ⟨_, _, _, J7, rz, qz⟩
          | next => obtain ⟨σz, Hz, Sz, qz⟩ := hsp; exact behind Sz fun s7 J7 => ⟨_, _, J7, qz⟩
          | brk => obtain ⟨σz, Hz, Sz, qz⟩ := hsp; exact behind Sz fun s7 J7 => ⟨_, _, J7, qz⟩
          | cont => obtain ⟨σz, Hz, Sz, qz⟩ := hsp; exact behind Sz fun s7 J7 => ⟨_, _, J7, qz⟩
    exact go hh wish
  · cases f with
    | ret u => obtain ⟨vz, σz, Hz, Jz, rz, qz⟩ := went; exact ⟨vz, σz, Hz, Jz.ofTry okX, rz, qz⟩
    | next => obtain ⟨σz, Hz, Jz, qz⟩ := went; exact wpAny_execs_nil ⟨σz, Hz, Jz.ofTry okX, qz⟩
    | brk => obtain ⟨σz, Hz, Jz, qz⟩ := went; exact ⟨σz, Hz, Jz.ofTry okX, qz⟩
    | cont => obtain ⟨σz, Hz, Jz, qz⟩ := went; exact ⟨σz, Hz, Jz.ofTry okX, qz⟩
end
section
variable {X : Cx}
/-- sorted(xs), any data -/
def rSortedV (K : PySem.W.Frag) : List V → Hp → VK → Prop := fun vs H Q => ∃ (a : Addr) (zs : List (V × PyData)), vs = [V.ref a] ∧ SqL K H a (zs.map Prod.fst) ∧ (∀ z ∈ zs, Dp K H z.1 z.2) ∧
  PySem.W.AllAlike (zs.map Prod.snd) ∧ PySem.W.Sortable (zs.map Prod.snd) ∧ (∀ z ∈ zs, z.2.depth ≤ 60) ∧ ∀ p : Addr, H p = none → Q (.ref p) (upd H p (.lst ((zs.mergeSort (PySem.W.dataLe false Prod.snd)).map Prod.fst)))
theorem each_of_vals {R : Value → V × PyData → Prop} : ∀ {zs : List (V × PyData)} {us : List Value}, Vals (zs.map Prod.fst) us → (∀ z ∈ zs, ∀ u, RelV z.1 u → R u z) → PySem.W.EachIs R us zs
  | [], _, r, _ => by cases r; exact .nil
  | z :: zs, _, r, h => by
    cases r with
    | cons a r => exact .cons (h z (List.mem_cons_self ..) _ a) (each_of_vals r fun y hy => h y (List.mem_cons_of_mem _ hy))
theorem vals_of_each : ∀ {us : List Value} {zs : List (V × PyData)}, PySem.W.EachIs (fun u z => RelV z.1 u) us zs → Vals (zs.map Prod.fst) us
  | _, _, .nil => .nil
  | _, _, .cons a r => .cons a (vals_of_each r)
theorem cr_sortedV (hu : X.A.units + 65 < cLine) : CallR X (.builtin "sorted") (rSortedV X.K) := by
  intro pins s σ H vs us Q I r h
  obtain ⟨a, zs, rfl, hs, hd, hal, hk, hdep, q⟩ := h
  obtain ⟨its, rv, hl, hz⟩ := I.list hs
  rw [Vals.ref1 r]
  have hlz : zs.length ≤ sizeLine := by rw [List.length_map] at hz; exact hz
  refine PySem.W.sorted_data (R := fun u z => RelV z.1 u) (enc := Prod.snd) hl.isList (each_of_vals rv fun _ _ _ h => h) (each_of_vals rv fun z hz u hr => Dp.reads I _ _ _ (hd z hz) hr) hal hk hlz (fun z hz => by have := hdep z hz; omega) fun out hlen eo => ?_
  obtain ⟨ep, he'⟩ := PyProof.Rows.sortedAll_at s.heap its out.toArray
  have hlen2 : ((zs.mergeSort (PySem.W.dataLe false Prod.snd)).map Prod.fst).length ≤ sizeLine := by
    rw [List.length_map, List.length_mergeSort]; exact hlz
  exact ⟨.ref _, upd H (s.heap.objs.size + 1) (.lst ((zs.mergeSort (PySem.W.dataLe false Prod.snd)).map Prod.fst)), I.laid (t' := s.toks) (fun _ _ => PyProof.Rows.sortedAll_old) (Nat.le_succ _) ⟨hlen2, out, ep, vals_of_each eo, he'⟩, rfl, q _ (I.hok.fresh (Nat.le_succ _))⟩
end
end DS

/-! DS1: plain data over the hand layer's abstract heap -/
namespace DS
open PySem PySem.Spec PyProof.Rows L2

/-- plain data: tuples, and lists, dicts, instances that nobody changes any more, are told by what is in them; ref: an object that may be changed -/
inductive D where
  | non | bl (b : Bool) | int (i : Int) | str (x : Str)
  | tup (ds : List D) | lst (ds : List D) | dic (kvs : List (Key × D)) | ins (c : Str) (fs : List (Str × D)) | ref (a : Addr) | glo (x : Str)
  /-- a list that stands outside: the script, the module's -/
  | frl (ds : List D)

/-- an object that may be changed -/
inductive MO where
  | lst (ds : List D) | dic (kvs : List (Key × D)) | ins (c : Str) (fs : List (Str × D))
abbrev Mp := Addr → Option MO
def mset (M : Mp) (a : Addr) (o : MO) : Mp := fun b => if b = a then some o else M b
def mdel (M : Mp) (a : Addr) : Mp := fun b => if b = a then none else M b
theorem mset_same {M : Mp} {a : Addr} {o : MO} : mset M a o a = some o := by unfold mset; rw [if_pos rfl]
theorem mset_ne {M : Mp} {a b : Addr} {o : MO} (h : b ≠ a) : mset M a o b = M b := by unfold mset; rw [if_neg h]
theorem mdel_same {M : Mp} {a : Addr} : mdel M a a = none := by unfold mdel; rw [if_pos rfl]
theorem mdel_ne {M : Mp} {a b : Addr} (h : b ≠ a) : mdel M a b = M b := by unfold mdel; rw [if_neg h]
theorem mset_mset {M : Mp} {a : Addr} {o u : MO} : mset (mset M a o) a u = mset M a u := by
  funext b; unfold mset; split <;> rfl
theorem mdel_mset {M : Mp} {a : Addr} {o : MO} (h : M a = none) : mdel (mset M a o) a = M := by
  funext b; unfold mdel mset; split
  · rename_i e; rw [e, h]
  · rfl

/-- a list of the written part -/
def SqK (K : PySem.W.Frag) (a : Addr) (xs : List V) : Prop := ∃ (o : Obj) (its : Array Value) (n : Nat), K.lookup a = some o ∧ o.cls = .type "list" ∧ o.dict = none ∧ o.data = .seq its n ∧ its.size ≤ sizeLine ∧ Vals xs its.toList
/-- what is not ours to change is kept -/
structure Ext (H : Hp) (M : Mp) (H' : Hp) (M' : Mp) : Prop where
  tup : ∀ a xs, Rd H a (.tup xs) → Rd H' a (.tup xs)
  keep : ∀ a u, M a = none → H a = some u → H' a = some u ∧ M' a = none
theorem Ext.refl {H : Hp} {M : Mp} : Ext H M H M := ⟨fun _ _ h => h, fun _ _ m h => ⟨h, m⟩⟩
theorem Ext.trans {H H1 H2 : Hp} {M M1 M2 : Mp} (a : Ext H M H1 M1) (b : Ext H1 M1 H2 M2) : Ext H M H2 M2 :=
  ⟨fun c xs h => b.tup c xs (a.tup c xs h), fun c u m h => let ⟨h1, m1⟩ := a.keep c u m h; b.keep c u m1 h1⟩
theorem Ext.rd {H H' : Hp} {M M' : Mp} (e : Ext H M H' M') (a : Addr) (u : HO) (m : M a = none) (h : Rd H a u) : Rd H' a u ∧ M' a = none := by
  rcases h with h | ⟨o, h⟩
  · exact ⟨.inl (e.keep a _ m h).1, (e.keep a _ m h).2⟩
  · exact ⟨.inr ⟨o, (e.keep a _ m h).1⟩, (e.keep a _ m h).2⟩
theorem Ext.ins {H H' : Hp} {M M' : Mp} (e : Ext H M H' M') (a C dx : Addr) (fs : List (Str × V)) (m : M a = none) (h : H a = some (.ins C dx fs)) : H' a = some (.ins C dx fs) ∧ M' a = none := e.keep a _ m h

/-- what holds of the places since some entry -/
structure An where
  ph : (Addr → Prop) → Hp → Mp → Prop
  cl : ∀ P H M H' M', Ext H M H' M' → ph P H M → ph P H' M'
def An.and (a b : An) : An := ⟨fun P H M => a.ph P H M ∧ b.ph P H M, fun P H M H' M' e h => ⟨a.cl P H M H' M' e h.1, b.cl P H M H' M' e h.2⟩⟩
/-- since a place P, H, M -/
def An.since (P : Addr → Prop) (H : Hp) (M : Mp) : An := ⟨fun P' H' M' => P' = P ∧ Ext H M H' M', fun _ _ _ _ _ e h => ⟨h.1, h.2.trans e⟩⟩
def An.top : An := ⟨fun _ _ _ => True, fun _ _ _ _ _ _ h => h⟩
/-- the written part, the module's names, the places that are somebody's beside ours -/
structure Wd where
  K : PySem.W.Frag
  mg : Str → Option Value
  P : Addr → Prop
  an : An
abbrev wd (X : Cx) (an : An) (P : Addr → Prop) : Wd := ⟨X.K, X.mg, P, an⟩
section
variable (F : Wd)
mutual
inductive Rep : Hp → Mp → D → V → Prop
  | non {H M} : Rep H M .non .non
  | bl {H M} (b : Bool) : Rep H M (.bl b) (.bl b)
  | int {H M} (i : Int) : Rep H M (.int i) (.int i)
  | str {H M} (x : Str) : Rep H M (.str x) (.str x)
  | tup {H M} {a : Addr} {vs : List V} {ds : List D} : SqT F.K H a vs → Reps H M ds vs → Rep H M (.tup ds) (.ref a)
  | lst {H M} {a : Addr} {vs : List V} {ds : List D} : H a = some (.lst vs) → M a = none → ¬ F.P a → Reps H M ds vs → Rep H M (.lst ds) (.ref a)
  | frl {H M} {a : Addr} {vs : List V} {ds : List D} : Rd H a (.lst vs) → M a = none → ¬ F.P a → Reps H M ds vs → Rep H M (.frl ds) (.ref a)
  | lstK {H M} {a : Addr} {vs : List V} {ds : List D} : SqK F.K a vs → Reps H M ds vs → Rep H M (.frl ds) (.ref a)
  | dic {H M} {a : Addr} {o : Obj} {vs : List (Key × V)} {ds : List (Key × D)} : H a = some (.frz o (.dK vs)) → M a = none → ¬ F.P a → RepK H M ds vs → Rep H M (.dic ds) (.ref a)
  | ins {H M} {a C dx : Addr} {c : Str} {vs : List (Str × V)} {ds : List (Str × D)} : H a = some (.ins C dx vs) → M a = none → ¬ F.P a → F.mg c = some (.ref C) → RepF H M ds vs → Rep H M (.ins c ds) (.ref a)
  | ref {H M} (a : Addr) : Rep H M (.ref a) (.ref a)
  | glo {H M} {x : Str} {v : V} {u : Value} : F.mg x = some u → RelV v u → v ≠ .non → Rep H M (.glo x) v
inductive Reps : Hp → Mp → List D → List V → Prop
  | nil {H M} : Reps H M [] []
  | cons {H M} {d : D} {v : V} {ds : List D} {vs : List V} : Rep H M d v → Reps H M ds vs → Reps H M (d :: ds) (v :: vs)
inductive RepK : Hp → Mp → List (Key × D) → List (Key × V) → Prop
  | nil {H M} : RepK H M [] []
  | cons {H M} {k : Key} {d : D} {v : V} {ds : List (Key × D)} {vs : List (Key × V)} : Rep H M d v → RepK H M ds vs → RepK H M ((k, d) :: ds) ((k, v) :: vs)
inductive RepF : Hp → Mp → List (Str × D) → List (Str × V) → Prop
  | nil {H M} : RepF H M [] []
  | cons {H M} {k : Str} {d : D} {v : V} {ds : List (Str × D)} {vs : List (Str × V)} : Rep H M d v → RepF H M ds vs → RepF H M ((k, d) :: ds) ((k, v) :: vs)
end
end

section
variable {F : Wd} {H H' : Hp} {M M' : Mp}
theorem SqT.ext {K : PySem.W.Frag} {a : Addr} {xs : List V} (e : Ext H M H' M') (h : SqT K H a xs) : SqT K H' a xs := by
  rcases h with h | h
  · exact .inl (e.tup a xs h)
  · exact .inr h
mutual
theorem Rep.ext (e : Ext H M H' M') : ∀ {d : D} {v : V}, Rep F H M d v → Rep F H' M' d v
  | _, _, .non => .non
  | _, _, .bl b => .bl b
  | _, _, .int i => .int i
  | _, _, .str x => .str x
  | _, _, .tup h r => .tup (SqT.ext e h) (Reps.ext e r)
  | _, _, .lst h m p r => .lst (e.keep _ _ m h).1 (e.keep _ _ m h).2 p (Reps.ext e r)
  | _, _, .frl h m p r => .frl (e.rd _ _ m h).1 (e.rd _ _ m h).2 p (Reps.ext e r)
  | _, _, .lstK h r => .lstK h (Reps.ext e r)
  | _, _, .dic h m p r => .dic (e.keep _ _ m h).1 (e.keep _ _ m h).2 p (RepK.ext e r)
  | _, _, .ins h m p g r => .ins (e.ins _ _ _ _ m h).1 (e.ins _ _ _ _ m h).2 p g (RepF.ext e r)
  | _, _, .ref a => .ref a
  | _, _, .glo g r n => .glo g r n
theorem Reps.ext (e : Ext H M H' M') : ∀ {ds : List D} {vs : List V}, Reps F H M ds vs → Reps F H' M' ds vs
  | _, _, .nil => .nil
  | _, _, .cons h r => .cons (Rep.ext e h) (Reps.ext e r)
theorem RepK.ext (e : Ext H M H' M') : ∀ {ds : List (Key × D)} {vs : List (Key × V)}, RepK F H M ds vs → RepK F H' M' ds vs
  | _, _, .nil => .nil
  | _, _, .cons h r => .cons (Rep.ext e h) (RepK.ext e r)
theorem RepF.ext (e : Ext H M H' M') : ∀ {ds : List (Str × D)} {vs : List (Str × V)}, RepF F H M ds vs → RepF F H' M' ds vs
  | _, _, .nil => .nil
  | _, _, .cons h r => .cons (Rep.ext e h) (RepF.ext e r)
end
theorem Reps.length : ∀ {ds : List D} {vs : List V}, Reps F H M ds vs → ds.length = vs.length
  | _, _, .nil => rfl
  | _, _, .cons _ r => congrArg (· + 1) r.length
theorem Reps.get : ∀ {ds : List D} {vs : List V} {i : Nat} {d : D}, Reps F H M ds vs → ds[i]? = some d → ∃ v, vs[i]? = some v ∧ Rep F H M d v
  | _, _, _, _, .nil, e => by simp at e
  | _, _, 0, _, .cons h _, e => by simp at e; subst e; exact ⟨_, rfl, h⟩
  | _, _, i + 1, d, .cons _ r, e => by
    obtain ⟨v, h1, h2⟩ := Reps.get (i := i) (d := d) r (by simpa using e)
    exact ⟨v, by simpa using h1, h2⟩
theorem Reps.get' : ∀ {ds : List D} {vs : List V} {i : Nat} {v : V}, Reps F H M ds vs → vs[i]? = some v → ∃ d, ds[i]? = some d ∧ Rep F H M d v
  | _, _, _, _, .nil, e => by simp at e
  | _, _, 0, _, .cons h _, e => by simp at e; subst e; exact ⟨_, rfl, h⟩
  | _, _, i + 1, v, .cons _ r, e => by
    obtain ⟨d, h1, h2⟩ := Reps.get' (i := i) (v := v) r (by simpa using e)
    exact ⟨d, by simpa using h1, h2⟩
theorem Reps.append : ∀ {ds es : List D} {vs us : List V}, Reps F H M ds vs → Reps F H M es us → Reps F H M (ds ++ es) (vs ++ us)
  | _, _, _, _, .nil, s => s
  | _, _, _, _, .cons h r, s => .cons h (Reps.append r s)
theorem Reps.take : ∀ {ds : List D} {vs : List V} (n : Nat), Reps F H M ds vs → Reps F H M (ds.take n) (vs.take n)
  | _, _, 0, _ => by simpa using Reps.nil
  | _, _, _ + 1, .nil => .nil
  | _, _, n + 1, .cons h r => .cons h (Reps.take n r)
theorem Reps.drop : ∀ {ds : List D} {vs : List V} (n : Nat), Reps F H M ds vs → Reps F H M (ds.drop n) (vs.drop n)
  | _, _, 0, r => r
  | _, _, _ + 1, .nil => .nil
  | _, _, n + 1, .cons _ r => Reps.drop n r
theorem Reps.set {d : D} {v : V} (h : Rep F H M d v) : ∀ {ds : List D} {vs : List V} (i : Nat), Reps F H M ds vs → Reps F H M (ds.set i d) (vs.set i v)
  | _, _, _, .nil => .nil
  | _, _, 0, .cons _ r => .cons h r
  | _, _, i + 1, .cons q r => .cons q (Reps.set h i r)
theorem Reps.rev : ∀ {ds : List D} {vs : List V}, Reps F H M ds vs → Reps F H M ds.reverse vs.reverse
  | _, _, .nil => .nil
  | _, _, .cons h r => by
    rw [List.reverse_cons, List.reverse_cons]
    exact (Reps.rev r).append (.cons h .nil)
theorem RepF.look {f : Str} : ∀ {ds : List (Str × D)} {vs : List (Str × V)} {d : D}, RepF F H M ds vs → ds.lookup f = some d → ∃ v, vs.lookup f = some v ∧ Rep F H M d v
  | _, _, _, .nil, e => by simp at e
  | (k, d0) :: ds, (_, v0) :: vs, d, .cons h r, e => by
    rw [List.lookup_cons] at e ⊢
    cases hk : f == k with
    | true => rw [hk] at e; simp at e; subst e; exact ⟨_, rfl, h⟩
    | false => rw [hk] at e; exact RepF.look r e
theorem RepF.lookN {f : Str} : ∀ {ds : List (Str × D)} {vs : List (Str × V)}, RepF F H M ds vs → ds.lookup f = none → vs.lookup f = none
  | _, _, .nil, e => rfl
  | (k, d0) :: ds, (_, v0) :: vs, .cons h r, e => by
    rw [List.lookup_cons] at e ⊢
    cases hk : f == k with
    | true => rw [hk] at e; simp at e
    | false => rw [hk] at e; exact RepF.lookN r e
def putD (f : Str) (d : D) : List (Str × D) → List (Str × D)
  | [] => [(f, d)]
  | (g, x) :: r => if g = f then (g, d) :: r else (g, x) :: putD f d r
theorem RepF.put {f : Str} {d : D} {v : V} (h : Rep F H M d v) : ∀ {ds : List (Str × D)} {vs : List (Str × V)}, RepF F H M ds vs → RepF F H M (putD f d ds) (putF f v vs)
  | _, _, .nil => .cons h .nil
  | (k, d0) :: ds, (_, v0) :: vs, .cons q r => by
    unfold putD putF
    split
    · exact .cons h r
    · exact .cons q (RepF.put h r)
theorem RepF.length : ∀ {ds : List (Str × D)} {vs : List (Str × V)}, RepF F H M ds vs → ds.length = vs.length
  | _, _, .nil => rfl
  | _, _, .cons _ r => congrArg (· + 1) r.length
end

/-- an object that may be changed stands in the heap -/
def RepO (F : Wd) (H : Hp) (M : Mp) (a : Addr) : MO → Prop
  | .lst ds => ∃ vs, H a = some (.lst vs) ∧ Reps F H M ds vs
  | .dic ds => ∃ vs, H a = some (.dK vs) ∧ RepK F H M ds vs
  | .ins c ds => ∃ C dx vs, H a = some (.ins C dx vs) ∧ F.mg c = some (.ref C) ∧ RepF F H M ds vs
structure RelH (F : Wd) (H : Hp) (M : Mp) : Prop where
  ob : ∀ a o, M a = some o → RepO F H M a o
  pv : ∀ a, F.P a → M a = none ∧ ∃ u, H a = some u
  ah : F.an.ph F.P H M
section
variable {F : Wd} {H H' : Hp} {M M' : Mp} {a : Addr} {o : MO}
theorem RelH.free (r : RelH F H M) (h : H a = none) : M a = none := by
  cases e : M a with
  | none => rfl
  | some o =>
    have q := r.ob a o e
    cases o with
    | lst ds => obtain ⟨_, z, _⟩ := q; rw [h] at z; cases z
    | dic ds => obtain ⟨_, z, _⟩ := q; rw [h] at z; cases z
    | ins c ds => obtain ⟨_, _, _, z, _⟩ := q; rw [h] at z; cases z
theorem rdSome {u : HO} (h : Rd H a u) : ∃ o, H a = some o := h.elim (fun h => ⟨_, h⟩) fun ⟨_, h⟩ => ⟨_, h⟩
theorem rdNe {b : Addr} {u w : HO} (h : Rd H a u) (n : a ≠ b) : Rd (upd H b w) a u := by
  rcases h with h | ⟨o, h⟩
  · exact .inl (by rw [L2.upd_ne n]; exact h)
  · exact .inr ⟨o, by rw [L2.upd_ne n]; exact h⟩
theorem rdNew {b : Addr} {u w : HO} (h : Rd H a u) (n : H b = none) : Rd (upd H b w) a u := by
  refine rdNe h ?_
  rintro rfl
  obtain ⟨o, q⟩ := rdSome h
  rw [n] at q; cases q
/-- a new object, ours -/
theorem Ext.new (h : H a = none) (m : M a = none) {u : HO} : Ext H M (upd H a u) (mset M a o) := by
  refine ⟨fun b xs q => rdNew q h, fun b w mb q => ?_⟩
  have nb : b ≠ a := by rintro rfl; rw [h] at q; cases q
  rw [mset_ne nb, L2.upd_ne nb]; exact ⟨q, mb⟩
/-- a new object, nobody's -/
theorem Ext.newF (h : H a = none) {u : HO} : Ext H M (upd H a u) M := by
  refine ⟨fun b xs q => rdNew q h, fun b w mb q => ?_⟩
  have nb : b ≠ a := by rintro rfl; rw [h] at q; cases q
  rw [L2.upd_ne nb]; exact ⟨q, mb⟩
/-- one of ours is changed -/
theorem Ext.wr {u : HO} (m : M a = some o) {o' : MO} (nt : ∀ xs, ¬ Rd H a (.tup xs)) : Ext H M (upd H a u) (mset M a o') := by
  have ne : ∀ b, M b = none → b ≠ a := fun b mb e => by subst e; rw [m] at mb; cases mb
  refine ⟨fun b xs q => rdNe q fun e => ?_, fun b w mb q => ?_⟩
  · subst e; exact nt xs q
  · rw [mset_ne (ne b mb), L2.upd_ne (ne b mb)]; exact ⟨q, mb⟩
/-- one of ours is given up -/
theorem Ext.give : Ext H M H (mdel M a) :=
  ⟨fun _ _ q => q, fun b u mb q => ⟨q, by unfold mdel; split; rfl; exact mb⟩⟩
/-- .. and locked -/
theorem Ext.giveL {u : HO} (m : M a = some o) (nt : ∀ xs, ¬ Rd H a (.tup xs)) : Ext H M (upd H a u) (mdel M a) := by
  have ne : ∀ b, M b = none → b ≠ a := fun b mb e => by subst e; rw [m] at mb; cases mb
  refine ⟨fun b xs q => rdNe q fun e => ?_, fun b w mb q => ?_⟩
  · subst e; exact nt xs q
  · rw [mdel_ne (ne b mb), L2.upd_ne (ne b mb)]; exact ⟨q, mb⟩
theorem RepO.ext (e : Ext H M H' M') (k : H' a = H a) (q : RepO F H M a o) : RepO F H' M' a o := by
  cases o with
  | lst ds => obtain ⟨vs, h, r⟩ := q; exact ⟨vs, k.trans h, r.ext e⟩
  | dic ds => obtain ⟨vs, h, r⟩ := q; exact ⟨vs, k.trans h, r.ext e⟩
  | ins c ds => obtain ⟨C, dx, vs, h, g, r⟩ := q; exact ⟨C, dx, vs, k.trans h, g, r.ext e⟩
theorem RepO.some (q : RepO F H M a o) : ∃ u, H a = .some u := by
  cases o with
  | lst ds => obtain ⟨vs, h, r⟩ := q; exact ⟨_, h⟩
  | dic ds => obtain ⟨vs, h, r⟩ := q; exact ⟨_, h⟩
  | ins c ds => obtain ⟨C, dx, vs, h, g, r⟩ := q; exact ⟨_, h⟩
theorem RepO.notup (q : RepO F H M a o) : ∀ xs, ¬ Rd H a (.tup xs) := by
  intro xs z
  rcases z with z | ⟨ob, z⟩
  · cases o with
    | lst ds => obtain ⟨vs, h, r⟩ := q; rw [h] at z; cases z
    | dic ds => obtain ⟨vs, h, r⟩ := q; rw [h] at z; cases z
    | ins c ds => obtain ⟨C, dx, vs, h, g, r⟩ := q; rw [h] at z; cases z
  · cases o with
    | lst ds => obtain ⟨vs, h, r⟩ := q; rw [h] at z; cases z
    | dic ds => obtain ⟨vs, h, r⟩ := q; rw [h] at z; cases z
    | ins c ds => obtain ⟨C, dx, vs, h, g, r⟩ := q; rw [h] at z; cases z
theorem RelH.nop (r : RelH F H M) (h : H a = none) : ¬ F.P a := fun p => by
  obtain ⟨_, u, e⟩ := r.pv a p
  rw [h] at e; cases e
/-- behind a new object of ours -/
theorem RelH.new (r : RelH F H M) (h : H a = none) {u : HO} (q : RepO F (upd H a u) (mset M a o) a o) : RelH F (upd H a u) (mset M a o) := by
  refine ⟨fun b p e => ?_, fun b p => ?_, F.an.cl _ _ _ _ _ (Ext.new h (r.free h)) r.ah⟩
  · by_cases hb : b = a
    · subst hb; rw [mset_same] at e; cases e; exact q
    · rw [mset_ne hb] at e
      exact (r.ob b p e).ext (Ext.new h (r.free h)) (L2.upd_ne hb)
  · have nb : b ≠ a := by rintro rfl; exact r.nop h p
    rw [mset_ne nb, L2.upd_ne nb]; exact r.pv b p
theorem RelH.newF (r : RelH F H M) (h : H a = none) {u : HO} : RelH F (upd H a u) M := by
  refine ⟨fun b p e => ?_, fun b p => ?_, F.an.cl _ _ _ _ _ (Ext.newF h) r.ah⟩
  · have nb : b ≠ a := by rintro rfl; rw [r.free h] at e; cases e
    exact (r.ob b p e).ext (Ext.newF h) (L2.upd_ne nb)
  · have nb : b ≠ a := by rintro rfl; exact r.nop h p
    rw [L2.upd_ne nb]; exact r.pv b p
theorem RelH.wr (r : RelH F H M) (m : M a = some o) {o' : MO} {u : HO} (q : RepO F (upd H a u) (mset M a o') a o') : RelH F (upd H a u) (mset M a o') := by
  refine ⟨fun b p e => ?_, fun b p => ?_, F.an.cl _ _ _ _ _ (Ext.wr m (r.ob a o m).notup) r.ah⟩
  · by_cases hb : b = a
    · subst hb; rw [mset_same] at e; cases e; exact q
    · rw [mset_ne hb] at e
      exact (r.ob b p e).ext (Ext.wr m (r.ob a o m).notup) (L2.upd_ne hb)
  · have nb : b ≠ a := by rintro rfl; rw [(r.pv _ p).1] at m; cases m
    rw [mset_ne nb, L2.upd_ne nb]; exact r.pv b p
theorem RelH.giveL (r : RelH F H M) (m : M a = some o) {u : HO} : RelH F (upd H a u) (mdel M a) := by
  refine ⟨fun b p e => ?_, fun b p => ?_, F.an.cl _ _ _ _ _ (Ext.giveL m (r.ob a o m).notup) r.ah⟩
  · have nb : b ≠ a := by rintro rfl; rw [mdel_same] at e; cases e
    rw [mdel_ne nb] at e
    exact (r.ob b p e).ext (Ext.giveL m (r.ob a o m).notup) (L2.upd_ne nb)
  · have nb : b ≠ a := by rintro rfl; rw [(r.pv _ p).1] at m; cases m
    rw [mdel_ne nb, L2.upd_ne nb]; exact r.pv b p
theorem RelH.give (r : RelH F H M) : RelH F H (mdel M a) := by
  refine ⟨fun b p e => ?_, fun b p => ⟨?_, (r.pv b p).2⟩, F.an.cl _ _ _ _ _ Ext.give r.ah⟩
  · have e' : M b = some p := by
      unfold mdel at e; split at e
      · cases e
      · exact e
    exact (r.ob b p e').ext Ext.give rfl
  · unfold mdel; split
    · rfl
    · exact (r.pv b p).1
end

/-! ### readings over plain data -/
abbrev Env1 := List (Option D)
abbrev QE := D → Mp → Prop
abbrev XD := Str × List (Str × D)
abbrev QX := XD → Mp → Prop
abbrev TD := Env1 → Mp → QE → Prop
abbrev SpD := List D → Mp → QE → QX → Prop
def RepE (F : Wd) (H : Hp) (M : Mp) (ρ : Env1) (σ : L2.St) : Prop :=
  ρ.length = σ.length ∧ ∀ (i : Nat) (d : D), ρ[i]? = some (some d) → ∃ v, σ[i]? = some (some v) ∧ Rep F H M d v
/-- an exception of an own class -/
def RepX (F : Wd) (H : Hp) (M : Mp) (x : XD) (cls : Value) (dd : Option Addr) : Prop :=
  ∃ C, cls = .ref C ∧ F.mg x.1 = some (.ref C) ∧ ((x.2 = [] ∧ dd = none) ∨ (x.2 ≠ [] ∧ ∃ d vs, dd = some d ∧ H d = some (.xd vs) ∧ ∀ f e, x.2.lookup f = some e → ∃ v, vs.lookup f = some v ∧ Rep F H M e v))
section
variable {F : Wd} {H H' : Hp} {M M' : Mp} {ρ : Env1} {σ : L2.St}
theorem RepE.ext (e : Ext H M H' M') (r : RepE F H M ρ σ) : RepE F H' M' ρ σ :=
  ⟨r.1, fun i d h => let ⟨v, h1, h2⟩ := r.2 i d h; ⟨v, h1, h2.ext e⟩⟩
theorem RepE.set (r : RepE F H M ρ σ) {i : Nat} {d : D} {v : V} (h : Rep F H M d v) : RepE F H M (ρ.set i (some d)) (σ.set i (some v)) := by
  refine ⟨by simp [r.1], fun j e hj => ?_⟩
  by_cases hij : i = j
  · subst hij
    have hl : i < ρ.length := by
      have := (List.getElem?_eq_some_iff.mp hj).1
      simpa using this
    rw [List.getElem?_set_self hl] at hj
    cases hj
    exact ⟨v, by rw [List.getElem?_set_self (by rw [← r.1]; exact hl)], h⟩
  · rw [List.getElem?_set_ne hij] at hj ⊢
    exact r.2 j e hj
theorem RepE.setN (r : RepE F H M ρ σ) {i : Nat} : RepE F H M (ρ.set i none) (σ.set i none) := by
  refine ⟨by simp [r.1], fun j e hj => ?_⟩
  by_cases hij : i = j
  · subst hij
    have hl : i < ρ.length := by
      have := (List.getElem?_eq_some_iff.mp hj).1
      simpa using this
    rw [List.getElem?_set_self hl] at hj
    cases hj
  · rw [List.getElem?_set_ne hij] at hj ⊢
    exact r.2 j e hj
end
/-- a reading over data, as a reading over values -/
def lift (X : Cx) (an : An) (r : TD) : TE := fun σ H Q => ∃ P ρ M R, RepE (wd X an P) H M ρ σ ∧ RelH (wd X an P) H M ∧ r ρ M R ∧
  ∀ d M', R d M' → ∀ v H', Ext H M H' M' → RelH (wd X an P) H' M' → Rep (wd X an P) H' M' d v → Q v H'
abbrev TTD := Env1 → Mp → (Bool → Mp → Prop) → Prop
def liftT (X : Cx) (an : An) (r : TTD) : TT := fun σ H Q => ∃ P ρ M R, RepE (wd X an P) H M ρ σ ∧ RelH (wd X an P) H M ∧ r ρ M R ∧
  ∀ b M', R b M' → ∀ H', Ext H M H' M' → RelH (wd X an P) H' M' → Q b H'
abbrev TAD := Env1 → Mp → (List D → Mp → Prop) → Prop
def liftA (X : Cx) (an : An) (r : TAD) : TA := fun σ H Q => ∃ P ρ M R, RepE (wd X an P) H M ρ σ ∧ RelH (wd X an P) H M ∧ r ρ M R ∧
  ∀ ds M', R ds M' → ∀ vs H', Ext H M H' M' → RelH (wd X an P) H' M' → Reps (wd X an P) H' M' ds vs → Q vs H'
structure EndsD where
  nx : Env1 → Mp → Prop
  rt : QE
  bk : Env1 → Mp → Prop
  ct : Env1 → Mp → Prop
abbrev TSD := EndsD → Env1 → Mp → Prop
def liftS (X : Cx) (an : An) (r : TSD) : TS := fun Dn σ H => ∃ P ρ M R, RepE (wd X an P) H M ρ σ ∧ RelH (wd X an P) H M ∧ r R ρ M ∧
  (∀ ρ' M', R.nx ρ' M' → ∀ σ' H', Ext H M H' M' → RelH (wd X an P) H' M' → RepE (wd X an P) H' M' ρ' σ' → Dn.nx σ' H') ∧
  (∀ d M', R.rt d M' → ∀ v H', Ext H M H' M' → RelH (wd X an P) H' M' → Rep (wd X an P) H' M' d v → Dn.rt v H') ∧
  (∀ ρ' M', R.bk ρ' M' → ∀ σ' H', Ext H M H' M' → RelH (wd X an P) H' M' → RepE (wd X an P) H' M' ρ' σ' → Dn.bk σ' H') ∧
  (∀ ρ' M', R.ct ρ' M' → ∀ σ' H', Ext H M H' M' → RelH (wd X an P) H' M' → RepE (wd X an P) H' M' ρ' σ' → Dn.ct σ' H')
/-- a promise over data -/
def liftSp (K : PySem.W.Frag) (mg : Str → Option Value) (n : Nat) (sp : SpD) : Sp := fun vs H Q E => ∃ P an ds M R RX, ds.length = n ∧ Reps ⟨K, mg, P, an⟩ H M ds vs ∧ RelH ⟨K, mg, P, an⟩ H M ∧ sp ds M R RX ∧
  (∀ d M', R d M' → ∀ v H', Ext H M H' M' → RelH ⟨K, mg, P, an⟩ H' M' → Rep ⟨K, mg, P, an⟩ H' M' d v → Q v H') ∧
  (∀ x M', RX x M' → ∀ cls dd H', Ext H M H' M' → RelH ⟨K, mg, P, an⟩ H' M' → RepX ⟨K, mg, P, an⟩ H' M' x cls dd → E cls dd H')
section
variable {X : Cx} {e : Expr} {t t' : TE} {r : TD}
theorem PE.imp (h : PE X e t) (q : ∀ σ H Q, t' σ H Q → t σ H Q) : PE X e t' := ⟨fun pins s σ H Q I w => h.run pins s σ H Q I (q σ H Q w)⟩
theorem PT.imp {t t' : TT} (h : PT X e t) (q : ∀ σ H Q, t' σ H Q → t σ H Q) : PT X e t' := ⟨fun pins s σ H Q I w => h.run pins s σ H Q I (q σ H Q w)⟩
theorem PW.imp {t t' : TT} (h : PW X e t) (q : ∀ σ H Q, t' σ H Q → t σ H Q) : PW X e t' := ⟨fun w0 pins s σ H Q I w => h.run w0 pins s σ H Q I (q σ H Q w)⟩
theorem PA.imp {es : List Expr} {t t' : TA} (h : PA X es t) (q : ∀ σ H Q, t' σ H Q → t σ H Q) : PA X es t' := ⟨fun p pins s σ H Q I w => h.run p pins s σ H Q I (q σ H Q w)⟩
theorem PS.imp {st : Stmt} {t t' : TS} (h : PS X st t) (q : ∀ Dn σ H, t' Dn σ H → t Dn σ H) : PS X st t' := ⟨fun pins s σ H Dn I w => h.run pins s σ H Dn I (q Dn σ H w)⟩
theorem PSs.imp {st : List Stmt} {t t' : TS} (h : PSs X st t) (q : ∀ Dn σ H, t' Dn σ H → t Dn σ H) : PSs X st t' := ⟨fun pins s σ H Dn I w => h.run pins s σ H Dn I (q Dn σ H w)⟩
end
end DS

/-! DS2: a small language of one's own, its meaning (weakest preconditions over plain data), and when a text of Python is one of it -/
namespace DS
open PySem PySem.Spec PyProof.Rows L2

/-- built-in functions -/
inductive BF where
  | len | all | any | sum | abs | max | min | sorted
  deriving DecidableEq
/-- built-in classes -/
inductive BT where
  | int | tuple | list | str
  deriving DecidableEq
/-- built-in methods -/
inductive BM where
  | append | pop | extend
  deriving DecidableEq
def BF.id : BF → String
  | .len => "len" | .all => "all" | .any => "any" | .sum => "sum" | .abs => "abs" | .max => "max" | .min => "min" | .sorted => "sorted"
def BT.id : BT → String
  | .int => "int" | .tuple => "tuple" | .list => "list" | .str => "str"
/-- classes that isinstance asks -/
inductive IC where
  | int | tuple | list | str | bool | dict
  deriving DecidableEq
def IC.id : IC → String
  | .int => "int" | .tuple => "tuple" | .list => "list" | .str => "str" | .bool => "bool" | .dict => "dict"
mutual
inductive E where
  | var (i : Nat)
  | int (i : Int) | bl (b : Bool) | non | str (x : Str)
  | cst (i : Nat)
  | bin (m : Bool) (op : Operator) (a b : E)
  | neg (a : E)
  | cmp (op : CmpOp) (a b : E)
  | chain (op op' : CmpOp) (a b c : E)
  | and (a b : E) | or (a b : E) | not (a : E)
  | ife (c a b : E)
  | tup (es : EL) | lst (m : Bool) (es : EL)
  | ix (a i : E)
  | sl (m : Bool) (a : E) (lo hi : EO)
  | fld (a : E) (f : Str)
  | call (f : Nat) (es : EL)
  | meth (f : Nat) (a : E) (es : EL)
  | new (z : Bool) (f : Nat) (es : EL)
  | blt (m : Bool) (f : BF) (es : EL)
  | bty (m : Bool) (f : BT) (es : EL)
  | bm (f : BM) (o : E) (es : EL)
  | isi (a : E) (T : IC)
  /-- a field of the exception that the suite holds, in slot i; isinstance of it -/
  | exf (i : Nat) (f : Str) | exi (i : Nat) (k : Str)
  | lc (m : Bool) (own : List (Str × Nat)) (elt : E) (tg : TG1) (it : IT) (c : EO)
  /-- .. whose tests and items let exceptions out -/
  | lcx (m : Bool) (own : List (Str × Nat)) (elt : E) (tg : TG1) (it : IT) (c : EO)
  /-- what is never come to -/
  | bad
  /-- a dict: empty, of written entries; d.get(k, x); a[::-1] -/
  | dct0 (m : Bool) | dct (m : Bool) (es : EL) | dget1 (a k : E) | dget2 (a k x : E) | rev (m : Bool) (a : E)
  | dc (m : Bool) (own : List (Str × Nat)) (k v : E) (tg : TG1) (it : IT) (c : EO)
  | lc2 (m : Bool) (own : List (Str × Nat)) (vs1 : List Nat) (elt : E) (tg : TG1) (it : IT) (c : EO) (tg1 : TG1) (it1 : IT) (c1 : EO)
inductive EL where
  | nil | cons (e : E) (es : EL)
inductive EO where
  | none | some (e : E)
inductive IT where
  | seq (e : E) | items (e : E) | keys (e : E) | chars (e : E) | rng1 (a : E) | rng2 (a b : E) | rng3 (a b c : E) | zip (a b : E) | enum (a : E)
inductive TG1 where
  | v (i : Nat) | tup (ts : TGL) | sub (a i : E) | att (a : E) (f : Str)
inductive TGL where
  | nil | cons (t : TG1) (ts : TGL)
end
mutual
inductive S where
  | asg (tg : TG1) (e : E)
  /-- a name's store of a comprehension, within the comprehension's own frame -/
  | asgc (i : Nat) (e : E)
  | par (i j : Nat) (a b : E)
  | aug (i : Nat) (op : Operator) (e : E)
  | ex (e : E)
  | ret (e : E) | retN
  | ifs (c : E) (a b : SL)
  | for (tg : TG1) (it : IT) (b : SL)
  | while (c : E) (b : SL)
  | pass | brk | cont
  | raise (c : Nat) (es : EL)
  | fz (i : Nat)
  | try (b : SL) (hs : HL)
  /-- what is never come to -/
  | bad
  /-- a[i] op= e -/
  | augs (a i : E) (op : Operator) (e : E)
inductive SL where
  | nil | cons (s : S) (ss : SL)
/-- except k (as slot nm): b -/
inductive HL where
  | nil | cons (k : Str) (nm : Option Nat) (b : SL) (r : HL)
end

/-! ### the meaning -/
/-- what stands outside: the promises of defs and methods, the constants -/
structure Gam where
  fn : List (Nat × SpD) := []
  /-- class, method, number of arguments with self, promise -/
  mt : List (Str × Str × Nat × SpD) := []
  cst : List D := []
  /-- own exceptions: the fields that their arguments become -/
  exc : List (Str × List Str) := []
  /-- fields of a class's instances -/
  fl : List (Str × Str) := []
  /-- own exceptions: the classes among those below that they belong to -/
  sub : List (Str × List Str) := []
  /-- own exceptions whose fields are read, that isinstance asks -/
  xf : List (Str × Str) := []
  xi : List Str := []
  /-- the exception that a suite holds -/
  cur : Option (Addr × XD) := none
def nth {α : Type} : List α → Nat → Option α
  | [], _ => none
  | x :: _, 0 => some x
  | _ :: r, n + 1 => nth r n
abbrev XW := XD → Env1 → Mp → Prop

def slot : Env1 → Nat → Option D
  | [], _ => none
  | x :: _, 0 => x
  | _ :: r, n + 1 => slot r n
/-- a list's items -/
def lsOf (M : Mp) : D → Option (List D)
  | .lst ds => some ds
  | .frl ds => some ds
  | .ref a => match M a with
    | some (.lst ds) => some ds
    | _ => none
  | _ => none
/-- a list of our own -/
def lmOf (M : Mp) : D → Option (List D)
  | .lst ds => some ds
  | .ref a => match M a with
    | some (.lst ds) => some ds
    | _ => none
  | _ => none
/-- a dict's entries -/
def dcOf (M : Mp) : D → Option (List (Key × D))
  | .dic ds => some ds
  | .ref a => match M a with
    | some (.dic ds) => some ds
    | _ => none
  | _ => none
def keyD : D → Option Key
  | .int i => some (.inl i)
  | .str x => some (.inr x)
  | _ => none
def valD : List (Key × D) → Key → Option D
  | [], _ => none
  | (k', d) :: r, k => if k' = k then some d else valD r k
def putKD (kvs : List (Key × D)) (k : Key) (v : D) : List (Key × D) :=
  if (kvs.any fun kv => decide (kv.1 = k)) = true then kvs.map (fun kv => if kv.1 = k then (kv.1, v) else kv) else kvs ++ [(k, v)]
def sqOf (M : Mp) : D → Option (List D)
  | .tup ds => some ds
  | d => lsOf M d
/-- a new list: told by its address, or by what is in it -/
def newL (m : Bool) (ds : List D) (M : Mp) (Q : QE) : Prop := match m with
  | true => ∀ p, M p = none → Q (.ref p) (mset M p (.lst ds))
  | false => Q (.lst ds) M
/-- a new dict -/
def newDc (m : Bool) (kvs : List (Key × D)) (M : Mp) (Q : QE) : Prop := match m with
  | true => ∀ p, M p = none → Q (.ref p) (mset M p (.dic kvs))
  | false => Q (.dic kvs) M
/-- a new instance: kept as one that may be changed, or told by what is in it -/
def newI (z : Bool) (p : Addr) (M : Mp) (Q : QE) : Prop := match z with
  | false => Q (.ref p) M
  | true => match M p with
    | some (.ins c fs) => Q (.ins c fs) (mdel M p)
    | _ => False
def flds (M : Mp) : D → Option (Str × List (Str × D))
  | .ins c fs => some (c, fs)
  | .ref a => match M a with
    | some (.ins c fs) => some (c, fs)
    | _ => none
  | _ => none

/-! ### data that == reads -/
mutual
def pyF : D → Option PyData
  | .non => some .none
  | .bl b => some (.bool b)
  | .int i => some (.int i)
  | .str x => some (.str x)
  | .tup ds => (pyFs ds).map .tuple
  | .lst ds => (pyFs ds).map .list
  | _ => none
def pyFs : List D → Option (List PyData)
  | [] => some []
  | d :: ds => match pyF d, pyFs ds with
    | some x, some xs => some (x :: xs)
    | _, _ => none
end
/-- one list of ours at the top -/
def pyOf (M : Mp) : D → Option PyData
  | .ref a => match M a with
    | some (.lst ds) => (pyFs ds).map .list
    | _ => none
  | d => pyF d

def MulOk (i j : Int) : Prop := CMul i j
def DivOk (i j : Int) : Prop := CDivN i j
def binD (m : Bool) (op : Operator) (x y : D) (M : Mp) (Q : QE) : Prop :=
  match op, x, y with
  | .Add, .int i, .int j => Q (.int (i + j)) M
  | .Sub, .int i, .int j => Q (.int (i - j)) M
  | .Mult, .int i, .int j => MulOk i j ∧ Q (.int (i * j)) M
  | .FloorDiv, .int i, .int j => DivOk i j ∧ Q (.int (i.fdiv j)) M
  | .Mod, .int i, .int j => j ≠ 0 ∧ Q (.int (i.fmod j)) M
  | .Pow, .int i, .int j => CPow i j ∧ Q (.int (i ^ j.toNat)) M
  | .LShift, .int i, .int j => CPow i j ∧ Q (.int (i * 2 ^ j.toNat)) M
  | .RShift, .int i, .int j => 0 ≤ j ∧ Q (.int (i / 2 ^ j.toNat)) M
  | .BitAnd, .int i, .int j => Q (.int (Builtin.bitAnd i j)) M
  | .BitOr, .int i, .int j => Q (.int (Builtin.bitOr i j)) M
  | .BitXor, .int i, .int j => Q (.int (Builtin.bitXor i j)) M
  | .Add, .str i, .str j => i.length + j.length ≤ sizeLine ∧ Q (.str (i ++ j)) M
  | .Add, .tup i, .tup j => i.length + j.length ≤ sizeLine ∧ Q (.tup (i ++ j)) M
  | .Mult, .tup i, .int j => i ≠ [] ∧ -1000 ≤ j ∧ j ≤ 1000 ∧ i.length ≤ 1000 ∧ Q (.tup (List.replicate j.toNat i).flatten) M
  | .Add, x, y => match lmOf M x, lmOf M y with
    | some i, some j => i.length + j.length ≤ sizeLine ∧ newL m (i ++ j) M Q
    | _, _ => False
  | .Mult, x, .int j => match lmOf M x with
    | some i => (-(2 ^ 62) ≤ j ∧ j ≤ 16777216) ∧ i.length * j.toNat ≤ sizeLine ∧ newL m (List.replicate j.toNat i).flatten M Q
    | none => False
  | _, _, _ => False
/-- x op= y of ints, of texts -/
def augD (op : Operator) (x y : D) (M : Mp) (Q : QE) : Prop :=
  match op, x, y with
  | .Add, .int i, .int j => Q (.int (i + j)) M
  | .Sub, .int i, .int j => Q (.int (i - j)) M
  | .Mult, .int i, .int j => CMul i j ∧ Q (.int (i * j)) M
  | .FloorDiv, .int i, .int j => CDiv i j ∧ Q (.int (i / j)) M
  | .Mod, .int i, .int j => 0 < j ∧ Q (.int (i % j)) M
  | .LShift, .int i, .int j => CPow i j ∧ Q (.int (i * 2 ^ j.toNat)) M
  | .RShift, .int i, .int j => 0 ≤ j ∧ Q (.int (i / 2 ^ j.toNat)) M
  | .BitAnd, .int i, .int j => Q (.int (Builtin.bitAnd i j)) M
  | .BitOr, .int i, .int j => Q (.int (Builtin.bitOr i j)) M
  | .BitXor, .int i, .int j => Q (.int (Builtin.bitXor i j)) M
  | .Add, .str i, .str j => i.length + j.length ≤ sizeLine ∧ Q (.str (i ++ j)) M
  | _, _, _ => False
def isN : D → Bool
  | .non => true
  | _ => false
/-- x in y -/
def inD (x y : D) (M : Mp) (Q : Bool → Mp → Prop) : Prop :=
  match y with
  | .tup ys => match pyFs ys, pyF x with
    | some es, some d => SeqAt.shaped d = true ∧ SeqAt.shaped (.tuple es) = true ∧ Q (es.any fun z => PyData.eqv z d) M
    | _, _ => False
  | .str y => match x with
    | .str x => Q (!(Builtin.Str.occurrences y x 0 y.length 1).isEmpty) M
    | _ => False
  | y => match lsOf M y with
    | some ys => match pyFs ys, pyF x with
      | some es, some d => SeqAt.shaped d = true ∧ SeqAt.shaped (.list es) = true ∧ Q (es.any fun z => PyData.eqv z d) M
      | _, _ => False
    | none => match dcOf M y, keyD x with
      | some kvs, some k => Q (valD kvs k).isSome M
      | _, _ => False
def cmpD (op : CmpOp) (x y : D) (M : Mp) (Q : QE) : Prop :=
  match op with
  | .Eq => match pyOf M x, pyOf M y with
    | some d, some e => SeqAt.shaped d = true ∧ SeqAt.shaped e = true ∧ Q (.bl (PyData.eqv d e)) M
    | _, _ => False
  | .NotEq => match pyOf M x, pyOf M y with
    | some d, some e => SeqAt.shaped d = true ∧ SeqAt.shaped e = true ∧ Q (.bl (!PyData.eqv d e)) M
    | _, _ => False
  | .Lt => match x, y with
    | .int i, .int j => Q (.bl (decide (i < j))) M
    | _, _ => False
  | .LtE => match x, y with
    | .int i, .int j => Q (.bl (decide (i ≤ j))) M
    | _, _ => False
  | .Gt => match x, y with
    | .int i, .int j => Q (.bl (decide (j < i))) M
    | _, _ => False
  | .GtE => match x, y with
    | .int i, .int j => Q (.bl (decide (j ≤ i))) M
    | _, _ => False
  | .Is => isN y = true ∧ Q (.bl (isN x)) M
  | .IsNot => isN y = true ∧ Q (.bl (!isN x)) M
  | .In => inD x y M fun z => Q (.bl z)
  | .NotIn => inD x y M fun z => Q (.bl (!z))
def ixD (x i : D) (M : Mp) (Q : QE) : Prop :=
  match x with
  | .str z => match i with
    | .int i => z.length ≤ sizeLine ∧ match atI z.cps.toList i with
      | some c => Q (.str ⟨#[c]⟩) M
      | none => False
    | _ => False
  | x => match sqOf M x with
    | some ds => match i with
      | .int i => match atI ds i with
        | some d => Q d M
        | none => False
      | _ => False
    | none => match dcOf M x, keyD i with
      | some kvs, some k => match valD kvs k with
        | some d => Q d M
        | none => False
      | _, _ => False
/-- a[i] = d -/
def setD (x y d : D) (M : Mp) (Q : Mp → Prop) : Prop := match x with
  | .ref p => match M p with
    | some (.lst ds) => match y with
      | .int k => match ixN ds.length k with
        | some j => Q (mset M p (.lst (ds.set j d)))
        | none => False
      | _ => False
    | some (.dic kvs) => match keyD y with
      | some k => kvs.length < sizeLine ∧ Q (mset M p (.dic (putKD kvs k d)))
      | none => False
    | _ => False
  | _ => False
def isRf : D → Bool
  | .ref _ => true
  | _ => false
def cutD {α : Type} (xs : List α) (lo hi : Option Int) : List α := (xs.drop (HT.sIx xs.length 0 lo)).take (HT.sIx xs.length xs.length hi - HT.sIx xs.length 0 lo)
def slD (m : Bool) (x : D) (lo hi : Option Int) (M : Mp) (Q : QE) : Prop :=
  match x with
  | .tup ds => Q (.tup (cutD ds lo hi)) M
  | .str z => z.length ≤ sizeLine ∧ Q (.str (cutS z lo hi)) M
  | x => match lsOf M x with
    | some ds => newL m (cutD ds lo hi) M Q
    | none => False
def intsOf : List D → Option (List Int)
  | [] => some []
  | .int i :: r => (intsOf r).map (i :: ·)
  | _ => none
def blsOf : List D → Option (List Bool)
  | [] => some []
  | .bl i :: r => (blsOf r).map (i :: ·)
  | _ => none
/-- a built-in function -/
def pyD (d : D) : PyData := (pyF d).getD .none
def bltD (m : Bool) : BF → List D → Mp → QE → Prop
  | .len, [x], M, Q => match x with
    | .str x => x.length ≤ sizeLine ∧ Q (.int x.length) M
    | d => match sqOf M d with
      | some ds => ds.length ≤ sizeLine → Q (.int ds.length) M
      | none => match dcOf M d with
        | some kvs => Q (.int kvs.length) M
        | none => False
  | .all, [d], M, Q => match lsOf M d with
    | some ds => match blsOf ds with
      | some bs => Q (.bl (bs.all id)) M
      | none => False
    | none => False
  | .any, [d], M, Q => match lsOf M d with
    | some ds => match blsOf ds with
      | some bs => Q (.bl (bs.any id)) M
      | none => False
    | none => False
  | .sum, [d], M, Q => match lsOf M d with
    | some ds => match intsOf ds with
      | some bs => Q (.int bs.sum) M
      | none => False
    | none => False
  | .abs, [.int i], M, Q => Q (.int (if i < 0 then -i else i)) M
  | .max, [.int i, .int j], M, Q => Q (.int (if j > i then j else i)) M
  | .max, [d], M, Q => match lsOf M d with
    | some ds => match intsOf ds with
      | some bs => 0 < bs.length ∧ ∀ m, m ∈ bs → (∀ y, y ∈ bs → y ≤ m) → Q (.int m) M
      | none => False
    | none => False
  | .min, [.int i, .int j], M, Q => Q (.int (if j < i then j else i)) M
  | .min, [d], M, Q => match lsOf M d with
    | some ds => match intsOf ds with
      | some bs => 0 < bs.length ∧ ∀ m, m ∈ bs → (∀ y, y ∈ bs → m ≤ y) → Q (.int m) M
      | none => False
    | none => False
  | .sorted, [d], M, Q => match lsOf M d with
    | some ds => match pyFs ds with
      | some es => PySem.W.AllAlike es ∧ PySem.W.Sortable es ∧ (∀ e ∈ es, e.depth ≤ 60) ∧ newL m (ds.mergeSort (PySem.W.dataLe false pyD)) M Q
      | none => False
    | none => False
  | _, _, _, _ => False
/-- a built-in class called -/
def btyD (m : Bool) : BT → List D → Mp → QE → Prop
  | .int, [.int i], M, Q => Q (.int i) M
  | .int, [.bl k], M, Q => Q (.int (if k then 1 else 0)) M
  | .tuple, [d], M, Q => match sqOf M d with
    | some ds => Q (.tup ds) M
    | none => False
  | .list, [d], M, Q => match sqOf M d with
    | some ds => newL m ds M Q
    | none => False
  | .str, [.int i], M, Q => i.natAbs.log2 < 1920 ∧ Q (.str (toString i)) M
  | _, _, _, _ => False
/-- a method of a built-in class -/
def bmD : BM → D → List D → Mp → QE → Prop
  | .append, .ref a, [d], M, Q => match M a with
    | some (.lst ds) => ds.length < sizeLine ∧ Q .non (mset M a (.lst (ds ++ [d])))
    | _ => False
  | .pop, .ref a, [], M, Q => match M a with
    | some (.lst ds) => match ds[ds.length - 1]? with
      | some d => Q d (mset M a (.lst ds.dropLast))
      | none => False
    | _ => False
  | .extend, .ref a, [x], M, Q => match M a with
    | some (.lst ds) => match x with
      | .ref b => match M b with
        | some (.lst es) => ds.length + es.length ≤ sizeLine ∧ Q .non (mset M a (.lst (ds ++ es)))
        | _ => False
      | .lst es => ds.length + es.length ≤ sizeLine ∧ Q .non (mset M a (.lst (ds ++ es)))
      | _ => False
    | _ => False
  | _, _, _, _, _ => False
/-- the receiver is of the class -/
def bmTy (f : BM) (M : Mp) (x : D) : Prop := match f with
  | .append => (lsOf M x).isSome = true
  | .pop => (lsOf M x).isSome = true
  | .extend => (lsOf M x).isSome = true
/-- isinstance(x, T), T a built-in class -/
def isiD (T : IC) (M : Mp) : D → Option Bool
  | .non => some false
  | .bl _ => some (decide (T = .int ∨ T = .bool))
  | .int _ => some (decide (T = .int))
  | .str _ => some (decide (T = .str))
  | .tup _ => some (decide (T = .tuple))
  | .lst _ => some (decide (T = .list))
  | .frl _ => some (decide (T = .list))
  | .dic _ => some (decide (T = .dict))
  | .ref a => match M a with
    | some (.lst _) => some (decide (T = .list))
    | some (.dic _) => some (decide (T = .dict))
    | _ => none
  | _ => none

/-! ### loops -/
/-- what is walked: the items, and what must hold at each turn -/
abbrev TID := Env1 → Mp → (List D → (Mp → Prop) → Mp → Prop) → Prop
def foldC (bind : D → Env1 → Mp → (Env1 → Mp → Prop) → Prop) (cond : Env1 → Mp → (Bool → Mp → Prop) → Prop) (elt : Env1 → Mp → QE → Prop) (ρ : Env1) (g : Mp → Prop) : List D → List D → Mp → (List D → Mp → Prop) → Prop
  | [], acc, M, Q => g M ∧ Q acc M
  | x :: xs, acc, M, Q => g M ∧ bind x ρ M fun ρ1 M1 => cond ρ1 M1 fun b M2 =>
      match b with
      | true => elt ρ1 M2 fun d M3 => foldC bind cond elt ρ g xs (acc ++ [d]) M3 Q
      | false => foldC bind cond elt ρ g xs acc M2 Q
/-- .. with room for each item -/
def foldCz (bind : D → Env1 → Mp → (Env1 → Mp → Prop) → Prop) (cond : Env1 → Mp → (Bool → Mp → Prop) → Prop) (elt : Env1 → Mp → QE → Prop) (ρ : Env1) (g : Mp → Prop) : List D → List D → Mp → (List D → Mp → Prop) → Prop
  | [], acc, M, Q => g M ∧ Q acc M
  | x :: xs, acc, M, Q => g M ∧ bind x ρ M fun ρ1 M1 => cond ρ1 M1 fun b M2 =>
      match b with
      | true => elt ρ1 M2 fun d M3 => acc.length < sizeLine ∧ foldCz bind cond elt ρ g xs (acc ++ [d]) M3 Q
      | false => foldCz bind cond elt ρ g xs acc M2 Q
/-- .. two walks, one within the other -/
def foldC2 (bind : D → Env1 → Mp → (Env1 → Mp → Prop) → Prop) (cond : Env1 → Mp → (Bool → Mp → Prop) → Prop) (inner : Env1 → Mp → List D → (List D → Mp → Prop) → Prop) (ρ : Env1) (g : Mp → Prop) : List D → List D → Mp → (List D → Mp → Prop) → Prop
  | [], acc, M, Q => g M ∧ Q acc M
  | x :: xs, acc, M, Q => g M ∧ bind x ρ M fun ρ1 M1 => cond ρ1 M1 fun b M2 =>
      match b with
      | true => inner ρ1 M2 acc fun acc' M3 => foldC2 bind cond inner ρ g xs acc' M3 Q
      | false => foldC2 bind cond inner ρ g xs acc M2 Q
/-- .. into a dict -/
def foldK (bind : D → Env1 → Mp → (Env1 → Mp → Prop) → Prop) (cond : Env1 → Mp → (Bool → Mp → Prop) → Prop) (kx vx : Env1 → Mp → QE → Prop) (ρ : Env1) (g : Mp → Prop) : List D → List (Key × D) → Mp → (List (Key × D) → Mp → Prop) → Prop
  | [], acc, M, Q => g M ∧ Q acc M
  | x :: xs, acc, M, Q => g M ∧ bind x ρ M fun ρ1 M1 => cond ρ1 M1 fun b M2 =>
      match b with
      | true => kx ρ1 M2 fun k M3 => vx ρ1 M3 fun d M4 => match keyD k with
        | some k => foldK bind cond kx vx ρ g xs (putKD acc k d) M4 Q
        | none => False
      | false => foldK bind cond kx vx ρ g xs acc M2 Q
/-- the entries of a display, one behind the other -/
def mergeD : List D → List D → List (Key × D) → Option (List (Key × D))
  | [], [], acc => some acc
  | k :: ks, d :: ds, acc => match keyD k with
    | some k => mergeD ks ds (putKD acc k d)
    | none => none
  | _, _, _ => none
def kDD (k : Key) : D := match k with
  | .inl i => .int i
  | .inr x => .str x
/-- keys and values by turns -/
def evens {α : Type} : List α → List α
  | x :: _ :: r => x :: evens r
  | _ => []
def odds {α : Type} : List α → List α
  | _ :: y :: r => y :: odds r
  | _ => []
def foldS (bind : D → Env1 → Mp → (Env1 → Mp → Prop) → Prop) (body : EndsD → Env1 → Mp → Prop) (g : Mp → Prop) : List D → EndsD → Env1 → Mp → Prop
  | [], R, ρ, M => g M ∧ R.nx ρ M
  | x :: xs, R, ρ, M => g M ∧ bind x ρ M fun ρ1 M1 => body { R with nx := foldS bind body g xs R, ct := foldS bind body g xs R, bk := R.nx } ρ1 M1
def wipeD (ρ : Env1) : List Nat → Env1
  | [] => ρ
  | v :: vs => (wipeD ρ vs).set v none
def rgD (lo c : Int) (n : Nat) : List D := (List.range n).map fun (i : Nat) => D.int (lo + (i : Int) * c)
def zipD : List D → List D → List D
  | x :: xs, y :: ys => .tup [x, y] :: zipD xs ys
  | _, _ => []
def enumD : Nat → List D → List D
  | _, [] => []
  | i, x :: xs => .tup [.int i, x] :: enumD (i + 1) xs
/-- two lists, or two tuples -/
def zpOf (M : Mp) (x y : D) : Option (List D × List D) :=
  match x, y with
  | .tup a, .tup b => some (a, b)
  | x, y => match lsOf M x, lsOf M y with
    | some a, some b => some (a, b)
    | _, _ => none
/-- a thing that is walked stands still -/
def stay (M : Mp) (d : D) : Mp → Prop := fun M' => match d with
  | .ref a => M' a = M a
  | _ => True
def rgOk (i j c : Int) : Prop := c ≠ 0 ∧ c.natAbs < 1073741824 ∧ Builtin.Range.small i j c = true

def tgLen : TGL → Nat
  | .nil => 0
  | .cons _ ts => tgLen ts + 1
mutual
def wpE (G : Gam) (W : XW) : E → Env1 → Mp → QE → Prop
  | .var i, ρ, M, Q => match slot ρ i with
    | some d => Q d M
    | none => False
  | .int i, _, M, Q => Q (.int i) M
  | .bl i, _, M, Q => Q (.bl i) M
  | .non, _, M, Q => Q .non M
  | .str i, _, M, Q => Q (.str i) M
  | .cst x, _, M, Q => match nth G.cst x with
    | some d => Q d M
    | none => False
  | .bin m op a b, ρ, M, Q => wpE G W a ρ M fun x M1 => wpE G W b ρ M1 fun y M2 => binD m op x y M2 Q
  | .neg a, ρ, M, Q => wpE G W a ρ M fun x M1 => match x with
    | .int i => Q (.int (-i)) M1
    | _ => False
  | .cmp op a b, ρ, M, Q => wpE G W a ρ M fun x M1 => wpE G W b ρ M1 fun y M2 => cmpD op x y M2 Q
  | .chain op op' a b c, ρ, M, Q => wpE G W a ρ M fun x M1 => wpE G W b ρ M1 fun y M2 => cmpD op x y M2 fun z M3 => match z with
    | .bl true => wpE G W c ρ M3 fun w M4 => cmpD op' y w M4 Q
    | .bl false => Q (.bl false) M3
    | _ => False
  | .and a b, ρ, M, Q => wpE G W a ρ M fun x M1 => match x with
    | .bl true => wpE G W b ρ M1 Q
    | .bl false => Q (.bl false) M1
    | _ => False
  | .or a b, ρ, M, Q => wpE G W a ρ M fun x M1 => match x with
    | .bl true => Q (.bl true) M1
    | .bl false => wpE G W b ρ M1 Q
    | _ => False
  | .not a, ρ, M, Q => wpE G W a ρ M fun x M1 => match x with
    | .bl k => Q (.bl (!k)) M1
    | _ => False
  | .ife c a b, ρ, M, Q => wpE G W c ρ M fun x M1 => match x with
    | .bl true => wpE G W a ρ M1 Q
    | .bl false => wpE G W b ρ M1 Q
    | _ => False
  | .tup es, ρ, M, Q => wpL G W es ρ M fun ds M1 => Q (.tup ds) M1
  | .lst m es, ρ, M, Q => wpL G W es ρ M fun ds M1 => newL m ds M1 Q
  | .ix a i, ρ, M, Q => wpE G W a ρ M fun x M1 => wpE G W i ρ M1 fun y M2 => ixD x y M2 Q
  | .sl m a lo hi, ρ, M, Q => wpE G W a ρ M fun x M1 => wpO G W lo ρ M1 fun l M2 => wpO G W hi ρ M2 fun h M3 => slD m x l h M3 Q
  | .fld a f, ρ, M, Q => wpE G W a ρ M fun x M1 => match flds M1 x with
    | some (c, fs) => (c, f) ∈ G.fl ∧ match fs.lookup f with
      | some d => Q d M1
      | none => False
    | none => False
  | .call f es, ρ, M, Q => match nth G.fn f with
    | some (n, sp) => wpL G W es ρ M fun ds M1 => ds.length = n ∧ sp ds M1 Q fun x M' => W x ρ M'
    | none => False
  | .meth i a es, ρ, M, Q => match nth G.mt i with
    | some (c, f, n, sp) => wpE G W a ρ M fun x M0 => match flds M0 x with
      | some (k, fs) => k = c ∧ fs.lookup f = none ∧ wpL G W es ρ M0 fun ds M1 => ds.length + 1 = n ∧ sp (x :: ds) M1 Q fun x M' => W x ρ M'
      | none => False
    | none => False
  | .new z i es, ρ, M, Q => match nth G.mt i with
    | some (c, _, n, sp) => wpL G W es ρ M fun ds M1 => ds.length + 1 = n ∧ ∀ p, M1 p = none → sp (.ref p :: ds) (mset M1 p (.ins c [])) (fun d M2 => isN d = true ∧ newI z p M2 Q) fun x M' => W x ρ M'
    | none => False
  | .blt m f es, ρ, M, Q => wpL G W es ρ M fun ds M1 => bltD m f ds M1 Q
  | .bty m f es, ρ, M, Q => wpL G W es ρ M fun ds M1 => btyD m f ds M1 Q
  | .bm f o es, ρ, M, Q => wpE G W o ρ M fun x M1 => bmTy f M1 x ∧ wpL G W es ρ M1 fun ds M2 => bmD f x ds M2 Q
  | .isi a T, ρ, M, Q => wpE G W a ρ M fun x M1 => match isiD T M1 x with
    | some k => Q (.bl k) M1
    | none => False
  | .exf i f, ρ, M, Q => match G.cur with
    | some (a, x) => match slot ρ i with
      | some (.ref b) => a = b ∧ (x.1, f) ∈ G.xf ∧ match x.2.lookup f with
        | some d => Q d M
        | none => False
      | _ => False
    | none => False
  | .exi i k, ρ, M, Q => match G.cur with
    | some (a, x) => match slot ρ i with
      | some (.ref b) => a = b ∧ x.2 = [] ∧ x.1 ∈ G.xi ∧ match G.sub.lookup x.1 with
        | some ks => Q (.bl (decide (k ∈ ks))) M
        | none => False
      | _ => False
    | none => False
  | .lc m own elt tg it c, ρ, M, Q => wpI G W it ρ M fun xs g M1 => foldC (bindT G (fun _ _ _ => False) tg) (wpC G (fun _ _ _ => False) c) (wpE G (fun _ _ _ => False) elt) (wipeD ρ (own.map (·.2))) g xs [] M1 fun acc M2 => newL m acc M2 Q
  | .lcx m own elt tg it c, ρ, M, Q => wpI G W it ρ M fun xs g M1 => foldC (bindT G (fun x _ M' => W x ρ M') tg) (wpC G (fun x _ M' => W x ρ M') c) (wpE G (fun x _ M' => W x ρ M') elt) (wipeD ρ (own.map (·.2))) g xs [] M1 fun acc M2 => newL m acc M2 Q
  | .bad, ρ, M, Q => False
  | .dct0 m, ρ, M, Q => newDc m [] M Q
  | .dct m es, ρ, M, Q => wpL G (fun _ _ _ => False) es ρ M fun ds M1 => match mergeD (evens ds) (odds ds) [] with
    | some kvs => newDc m kvs M1 Q
    | none => False
  | .dget1 a k, ρ, M, Q => wpE G W a ρ M fun d M1 => (dcOf M1 d).isSome = true ∧ wpE G W k ρ M1 fun y M2 => match dcOf M2 d, keyD y with
    | some kvs, some k => Q ((valD kvs k).getD .non) M2
    | _, _ => False
  | .dget2 a k x, ρ, M, Q => wpE G W a ρ M fun d M1 => (dcOf M1 d).isSome = true ∧ wpE G W k ρ M1 fun y M2 => wpE G W x ρ M2 fun z M3 => match dcOf M3 d, keyD y with
    | some kvs, some k => Q ((valD kvs k).getD z) M3
    | _, _ => False
  | .rev m a, ρ, M, Q => wpE G W a ρ M fun d M1 => match lsOf M1 d with
    | some ds => newL m ds.reverse M1 Q
    | none => False
  | .dc m own k v tg it c, ρ, M, Q => wpI G W it ρ M fun xs g M1 => foldK (bindT G (fun _ _ _ => False) tg) (wpC G (fun _ _ _ => False) c) (wpE G (fun _ _ _ => False) k) (wpE G (fun _ _ _ => False) v) (wipeD ρ (own.map (·.2))) g xs [] M1 fun acc M2 => newDc m acc M2 Q
  | .lc2 m own vs1 elt tg it c tg1 it1 c1, ρ, M, Q => wpI G W it ρ M fun xs g M1 => foldC2 (bindT G (fun _ _ _ => False) tg) (wpC G (fun _ _ _ => False) c) (fun ρ2 M2 acc Q2 => wpI G (fun _ _ _ => False) it1 ρ2 M2 fun xs1 g1 M3 => foldCz (bindT G (fun _ _ _ => False) tg1) (wpC G (fun _ _ _ => False) c1) (wpE G (fun _ _ _ => False) elt) (wipeD ρ2 vs1) g1 xs1 acc M3 Q2) (wipeD ρ (own.map (·.2))) g xs [] M1 fun acc M2 => newL m acc M2 Q
def wpL (G : Gam) (W : XW) : EL → Env1 → Mp → (List D → Mp → Prop) → Prop
  | .nil, _, M, Q => Q [] M
  | .cons e es, ρ, M, Q => wpE G W e ρ M fun d M1 => wpL G W es ρ M1 fun ds M2 => Q (d :: ds) M2
def wpO (G : Gam) (W : XW) : EO → Env1 → Mp → (Option Int → Mp → Prop) → Prop
  | .none, _, M, Q => Q none M
  | .some e, ρ, M, Q => wpE G W e ρ M fun d M1 => match d with
    | .int i => Q (some i) M1
    | _ => False
/-- a clause's test -/
def wpC (G : Gam) (W : XW) : EO → Env1 → Mp → (Bool → Mp → Prop) → Prop
  | .none, _, M, Q => Q true M
  | .some e, ρ, M, Q => wpE G W e ρ M fun d M1 => match d with
    | .bl b => Q b M1
    | _ => False
def wpI (G : Gam) (W : XW) : IT → Env1 → Mp → (List D → (Mp → Prop) → Mp → Prop) → Prop
  | .seq e, ρ, M, Q => wpE G W e ρ M fun d M1 => match sqOf M1 d with
    | some ds => ds.length ≤ sizeLine → Q ds (stay M1 d) M1
    | none => False
  | .items e, ρ, M, Q => wpE G W e ρ M fun d M1 => match d with
    | .dic kvs => kvs.length ≤ sizeLine → Q (kvs.map fun p => .tup [kDD p.1, p.2]) (fun _ => True) M1
    | _ => False
  | .keys e, ρ, M, Q => wpE G W e ρ M fun d M1 => match d with
    | .dic kvs => kvs.length ≤ sizeLine → Q (kvs.map fun p => kDD p.1) (fun _ => True) M1
    | _ => False
  | .chars e, ρ, M, Q => wpE G W e ρ M fun d M1 => match d with
    | .str z => z.length ≤ sizeLine ∧ Q (z.cps.toList.map fun c => .str ⟨#[c]⟩) (fun _ => True) M1
    | _ => False
  | .rng1 e, ρ, M, Q => wpE G W e ρ M fun d M1 => match d with
    | .int i => (-(2 ^ 62) ≤ i ∧ i ≤ 16777216) ∧ Q (rgD 0 1 i.toNat) (fun _ => True) M1
    | _ => False
  | .rng2 a b, ρ, M, Q => wpE G W a ρ M fun x M1 => wpE G W b ρ M1 fun y M2 => match x, y with
    | .int i, .int j => (-(2 ^ 62) ≤ i ∧ i < 2 ^ 62 ∧ -(2 ^ 62) ≤ j ∧ j < 2 ^ 62 ∧ j - i ≤ 16777216) ∧ Q (rgD i 1 (j - i).toNat) (fun _ => True) M2
    | _, _ => False
  | .rng3 a b c, ρ, M, Q => wpE G W a ρ M fun x M1 => wpE G W b ρ M1 fun y M2 => wpE G W c ρ M2 fun z M3 => match x, y, z with
    | .int i, .int j, .int c => rgOk i j c ∧ Builtin.Range.rangeSize i j c ≤ 16777216 ∧ Q (rgD i c (Builtin.Range.rangeSize i j c).toNat) (fun _ => True) M3
    | _, _, _ => False
  | .zip a b, ρ, M, Q => wpE G W a ρ M fun x M1 => wpE G W b ρ M1 fun y M2 => match zpOf M2 x y with
    | some (xs, ys) => xs.length ≤ sizeLine → ys.length ≤ sizeLine → Q (zipD xs ys) (fun M' => stay M2 x M' ∧ stay M2 y M') M2
    | none => False
  | .enum a, ρ, M, Q => wpE G W a ρ M fun x M1 => match sqOf M1 x with
    | some xs => xs.length ≤ sizeLine → Q (enumD 0 xs) (stay M1 x) M1
    | _ => False
def bindT (G : Gam) (W : XW) : TG1 → D → Env1 → Mp → (Env1 → Mp → Prop) → Prop
  | .v i, d, ρ, M, Q => Q (ρ.set i (some d)) M
  | .tup ts, d, ρ, M, Q => match d with
    | .tup ds => ds.length = tgLen ts ∧ bindL G W ts ds ρ M Q
    | _ => False
  | .sub a i, d, ρ, M, Q => wpE G W a ρ M fun x M1 => wpE G W i ρ M1 fun y M2 => setD x y d M2 (Q ρ)
  | .att a f, d, ρ, M, Q => wpE G W a ρ M fun x M1 => match x with
    | .ref p => match M1 p with
      | some (.ins c fs) => (c, f) ∈ G.fl ∧ fs.length < 1000 ∧ Q ρ (mset M1 p (.ins c (putD f d fs)))
      | _ => False
    | _ => False
def bindL (G : Gam) (W : XW) : TGL → List D → Env1 → Mp → (Env1 → Mp → Prop) → Prop
  | .nil, ds, ρ, M, Q => ds = [] ∧ Q ρ M
  | .cons t ts, ds, ρ, M, Q => match ds with
    | d :: ds => bindT G W t d ρ M fun ρ1 M1 => bindL G W ts ds ρ1 M1 Q
    | [] => False
end
/-- a test -/
def wpT (G : Gam) (W : XW) (e : E) (ρ : Env1) (M : Mp) (Q : Bool → Mp → Prop) : Prop := wpE G W e ρ M fun d M1 => match d with
  | .bl b => Q b M1
  | _ => False
mutual
def wpS : S → Gam → XW → EndsD → Env1 → Mp → Prop
  | .asg tg e, G, W, R, ρ, M => wpE G W e ρ M fun d M1 => bindT G W tg d ρ M1 R.nx
  | .asgc i e, G, W, R, ρ, M => wpE G W e ρ M fun d M1 => R.nx (ρ.set i (some d)) M1
  | .par i j a b, G, W, R, ρ, M => wpE G W a ρ M fun x M1 => wpE G W b ρ M1 fun y M2 => R.nx ((ρ.set i (some x)).set j (some y)) M2
  | .aug i op e, G, W, R, ρ, M => match slot ρ i with
    | some x => wpE G W e ρ M fun y M1 => augD op x y M1 fun z M2 => R.nx (ρ.set i (some z)) M2
    | none => False
  | .ex e, G, W, R, ρ, M => wpE G W e ρ M fun _ M1 => R.nx ρ M1
  | .ret e, G, W, R, ρ, M => wpE G W e ρ M R.rt
  | .retN, G, W, R, _, M => R.rt .non M
  | .ifs c a b, G, W, R, ρ, M => wpT G W c ρ M fun k M1 => match k with
    | true => wpSs' a G W R ρ M1
    | false => wpSs' b G W R ρ M1
  | .for tg it b, G, W, R, ρ, M => wpI G W it ρ M fun xs g M1 => foldS (bindT G W tg) (wpSs' b G W) g xs R ρ M1
  | .while c b, G, W, R, ρ, M => ∃ I : Nat → Env1 → Mp → Prop, (∃ m, I m ρ M) ∧ ∀ m ρ M, I m ρ M → wpT G W c ρ M fun k M1 => match k with
    | true => wpSs' b G W { R with nx := fun ρ' M' => ∃ m', m' < m ∧ I m' ρ' M', ct := fun ρ' M' => ∃ m', m' < m ∧ I m' ρ' M', bk := R.nx } ρ M1
    | false => R.nx ρ M1
  | .pass, G, W, R, ρ, M => R.nx ρ M
  | .brk, G, W, R, ρ, M => R.bk ρ M
  | .cont, G, W, R, ρ, M => R.ct ρ M
  | .raise c es, G, W, R, ρ, M => match nth G.exc c with
    | some (c, fs) => wpL G W es ρ M fun ds M1 => ds.length = fs.length ∧ W (c, fs.zip ds) ρ M1
    | none => False
  | .fz i, G, W, R, ρ, M => match slot ρ i with
    | some (.ref a) => match M a with
      | some (.lst ds) => R.nx (ρ.set i (some (.lst ds))) (mdel M a)
      | some (.dic ds) => R.nx (ρ.set i (some (.dic ds))) (mdel M a)
      | some (.ins c ds) => R.nx (ρ.set i (some (.ins c ds))) (mdel M a)
      | none => False
    | _ => False
  | .augs a i op e, G, W, R, ρ, M => wpE G W a ρ M fun x M1 => wpE G W i ρ M1 fun y M2 => isRf x = true ∧ ixD x y M2 fun old M3 => wpE G W e ρ M3 fun v M4 => augD op old v M4 fun z M5 => setD x y z M5 (R.nx ρ)
  | .bad, G, W, R, ρ, M => False
  | .try b hs, G, W, R, ρ, M => wpSs' b G (fun x ρ' M' => wpH hs G W R x ρ' M') R ρ M
def wpSs' : SL → Gam → XW → EndsD → Env1 → Mp → Prop
  | .nil, G, W, R, ρ, M => R.nx ρ M
  | .cons s ss, G, W, R, ρ, M => wpS s G W { R with nx := wpSs' ss G W R } ρ M
/-- the clauses, one after the other -/
def wpH : HL → Gam → XW → EndsD → XD → Env1 → Mp → Prop
  | .nil, G, W, R, x, ρ, M => W x ρ M
  | .cons k nm b r, G, W, R, x, ρ, M => match G.sub.lookup x.1 with
    | some ks => (k ∈ ks → ∀ a, M a = none → match nm with
        | none => wpSs' b { G with cur := some (a, x) } (fun _ _ _ => False) R ρ M
        | some i => wpSs' b { G with cur := some (a, x) } (fun _ _ _ => False) { nx := fun ρ' M' => R.nx (ρ'.set i none) M', rt := R.rt, bk := fun ρ' M' => R.bk (ρ'.set i none) M', ct := fun ρ' M' => R.ct (ρ'.set i none) M' } (ρ.set i (some (.ref a))) M) ∧
      (k ∉ ks → wpH r G W R x ρ M)
    | none => False
end
abbrev wpSs (G : Gam) (W : XW) (ss : SL) : EndsD → Env1 → Mp → Prop := wpSs' ss G W
end DS

/-! DS3: the primitive steps keep their word -/
namespace DS
open PySem PySem.Spec PyProof.Rows L2
/-- every list and tuple is within the line -/
def LenOk (X : Cx) (H : Hp) : Prop := ∀ a vs, (SqL X.K H a vs ∨ SqT X.K H a vs) → vs.length ≤ sizeLine
section
variable {X : Cx}
theorem Inv.lenOk {pins : List (Addr × Obj)} {σ : L2.St} {H : Hp} {s : Shared} (I : Inv X pins σ H s) : LenOk X H := fun a vs h => by
  rcases h with h | h
  · obtain ⟨_, _, _, z⟩ := I.list h; exact z
  · obtain ⟨_, _, _, z⟩ := I.tuple h; exact z
end
section
variable {F : Wd} {H : Hp} {M : Mp}
theorem lsRep {x : D} {v : V} {ds : List D} (p : Rep F H M x v) (r : RelH F H M) (h : lsOf M x = some ds) : ∃ a vs, v = .ref a ∧ SqL F.K H a vs ∧ Reps F H M ds vs := by
  cases p with
  | lst h1 h2 hp h3 => cases h; exact ⟨_, _, rfl, .inl (.inl h1), h3⟩
  | frl h1 h2 hp h3 => cases h; exact ⟨_, _, rfl, .inl h1, h3⟩
  | lstK h1 h3 => cases h; exact ⟨_, _, rfl, .inr h1, h3⟩
  | ref a =>
    have h' : (match M a with | some (.lst ds) => some ds | _ => none) = some ds := h
    split at h'
    · rename_i e
      cases h'
      obtain ⟨vs, h1, h2⟩ := r.ob _ _ e
      exact ⟨_, vs, rfl, .inl (.inl h1), h2⟩
    · cases h'
  | _ => cases h
theorem sqRep {x : D} {v : V} {ds : List D} (p : Rep F H M x v) (r : RelH F H M) (h : sqOf M x = some ds) : ∃ a vs, v = .ref a ∧ (SqL F.K H a vs ∨ SqT F.K H a vs) ∧ Reps F H M ds vs := by
  cases p with
  | tup h1 h2 => cases h; exact ⟨_, _, rfl, .inr h1, h2⟩
  | lst h1 h2 hp h3 => cases h; exact ⟨_, _, rfl, .inl (.inl (.inl h1)), h3⟩
  | frl h1 h2 hp h3 => cases h; exact ⟨_, _, rfl, .inl (.inl h1), h3⟩
  | lstK h1 h3 => cases h; exact ⟨_, _, rfl, .inl (.inr h1), h3⟩
  | ref a =>
    obtain ⟨a, vs, e, h1, h2⟩ := lsRep (.ref a) r (show lsOf M (.ref a) = some ds from h)
    exact ⟨a, vs, e, .inl h1, h2⟩
  | _ => cases h
theorem lmRep {x : D} {v : V} {ds : List D} (p : Rep F H M x v) (r : RelH F H M) (h : lmOf M x = some ds) : ∃ a vs, v = .ref a ∧ H a = some (.lst vs) ∧ Reps F H M ds vs := by
  cases p with
  | lst h1 h2 hp h3 => cases h; exact ⟨_, _, rfl, h1, h3⟩
  | ref a =>
    have h' : (match M a with | some (.lst ds) => some ds | _ => none) = some ds := h
    split at h'
    · rename_i e
      cases h'
      obtain ⟨vs, h1, h2⟩ := r.ob _ _ e
      exact ⟨_, vs, rfl, h1, h2⟩
    · cases h'
  | _ => cases h
theorem dcRep {x : D} {v : V} {ds : List (Key × D)} (p : Rep F H M x v) (r : RelH F H M) (h : dcOf M x = some ds) : ∃ a vs, v = .ref a ∧ Rd H a (.dK vs) ∧ RepK F H M ds vs := by
  cases p with
  | dic h1 h2 hp h3 => cases h; exact ⟨_, _, rfl, .inr ⟨_, h1⟩, h3⟩
  | ref a =>
    have h' : (match M a with | some (.dic ds) => some ds | _ => none) = some ds := h
    split at h'
    · rename_i e
      cases h'
      obtain ⟨vs, h1, h2⟩ := r.ob _ _ e
      exact ⟨_, vs, rfl, .inl h1, h2⟩
    · cases h'
  | _ => cases h
theorem keyRep {x : D} {v : V} {k : Key} (p : Rep F H M x v) (h : keyD x = some k) : v = kV k := by
  cases p with
  | int i => cases h; rfl
  | str i => cases h; rfl
  | _ => cases h
theorem RepK.some {k : Key} {d : D} : ∀ {ds : List (Key × D)} {vs : List (Key × V)}, RepK F H M ds vs → valD ds k = some d → ∃ v, valV vs k = some v ∧ Rep F H M d v
  | _, _, .nil, h => by cases h
  | (k', d') :: ds, (_, v') :: vs, .cons h r, e => by
    unfold valD at e
    by_cases hk : k' = k
    · rw [if_pos hk] at e
      cases e
      exact ⟨v', valV_pos (p := (k', v')) hk, h⟩
    · rw [if_neg hk] at e
      obtain ⟨v, e1, e2⟩ := RepK.some r e
      exact ⟨v, by rw [valV_neg (p := (k', v')) hk]; exact e1, e2⟩
theorem RepK.none {k : Key} : ∀ {ds : List (Key × D)} {vs : List (Key × V)}, RepK F H M ds vs → valD ds k = none → valV vs k = none
  | _, _, .nil, _ => rfl
  | (k', d') :: ds, (_, v') :: vs, .cons h r, e => by
    unfold valD at e
    by_cases hk : k' = k
    · rw [if_pos hk] at e; cases e
    · rw [if_neg hk] at e
      rw [valV_neg (p := (k', v')) hk]; exact RepK.none r e
theorem RepK.isSome {k : Key} {ds : List (Key × D)} {vs : List (Key × V)} (r : RepK F H M ds vs) : (valV vs k).isSome = (valD ds k).isSome := by
  cases e : valD ds k with
  | none => rw [r.none e]; rfl
  | some d => obtain ⟨v, e1, _⟩ := r.some e; rw [e1]; rfl
theorem RepK.length : ∀ {ds : List (Key × D)} {vs : List (Key × V)}, RepK F H M ds vs → ds.length = vs.length
  | _, _, .nil => rfl
  | _, _, .cons _ r => congrArg (· + 1) r.length
theorem RepK.append : ∀ {ds es : List (Key × D)} {vs us : List (Key × V)}, RepK F H M ds vs → RepK F H M es us → RepK F H M (ds ++ es) (vs ++ us)
  | _, _, _, _, .nil, s => s
  | _, _, _, _, .cons h r, s => .cons h (RepK.append r s)
theorem RepK.anyK {k : Key} : ∀ {ds : List (Key × D)} {vs : List (Key × V)}, RepK F H M ds vs → (vs.any fun kv => decide (kv.1 = k)) = ds.any fun kv => decide (kv.1 = k)
  | _, _, .nil => rfl
  | _, _, .cons h r => by simp only [List.any_cons, RepK.anyK r]
theorem RepK.mapK {k : Key} {d : D} {v : V} (h : Rep F H M d v) : ∀ {ds : List (Key × D)} {vs : List (Key × V)}, RepK F H M ds vs →
    RepK F H M (ds.map fun kv => if kv.1 = k then (kv.1, d) else kv) (vs.map fun kv => if kv.1 = k then (kv.1, v) else kv)
  | _, _, .nil => .nil
  | (k', d') :: ds, (_, v') :: vs, .cons q r => by
    rw [List.map_cons, List.map_cons]
    by_cases hk : k' = k
    · simp only [hk, if_true]; exact .cons h (RepK.mapK h r)
    · simp only [hk, if_false]; exact .cons q (RepK.mapK h r)
theorem RepK.put {k : Key} {d : D} {v : V} (h : Rep F H M d v) {ds : List (Key × D)} {vs : List (Key × V)} (r : RepK F H M ds vs) : RepK F H M (putKD ds k d) (putK vs k v) := by
  unfold putKD putK
  rw [r.anyK]
  split
  · exact r.mapK h
  · exact r.append (.cons h .nil)
theorem Reps.rep : ∀ (n : Nat) {ds : List D} {vs : List V}, Reps F H M ds vs → Reps F H M (List.replicate n ds).flatten (List.replicate n vs).flatten
  | 0, _, _, _ => .nil
  | n + 1, _, _, r => by
    rw [List.replicate_succ, List.replicate_succ, List.flatten_cons, List.flatten_cons]
    exact r.append (Reps.rep n r)
mutual
theorem pyDp : ∀ (x : D) {v : V} {d : PyData}, Rep F H M x v → pyF x = some d → Dp F.K H v d
  | .non, _, _, .non, h => by cases h; exact .non
  | .bl b, _, _, .bl _, h => by cases h; exact .bl b
  | .int i, _, _, .int _, h => by cases h; exact .int i
  | .str i, _, _, .str _, h => by cases h; exact .str i
  | .tup ds, _, _, .tup h1 h2, h => by
    unfold pyF at h
    cases e : pyFs ds with
    | none => rw [e] at h; cases h
    | some es => rw [e] at h; cases h; exact .tup h1 (pyDps ds h2 e)
  | .lst ds, _, _, .lst h1 h3 hp h2, h => by
    unfold pyF at h
    cases e : pyFs ds with
    | none => rw [e] at h; cases h
    | some es => rw [e] at h; cases h; exact .lst (.inl (.inl h1)) (pyDps ds h2 e)
theorem pyDps : ∀ (xs : List D) {vs : List V} {ds : List PyData}, Reps F H M xs vs → pyFs xs = some ds → DpAll F.K H vs ds
  | [], _, _, .nil, h => by cases h; exact .nil
  | x :: xs, _, _, .cons h1 h2, h => by
    unfold pyFs at h
    split at h
    · rename_i e1 e2
      cases h
      exact .cons (pyDp x h1 e1) (pyDps xs h2 e2)
    · cases h
end
theorem pyOfDp {x : D} {v : V} {d : PyData} (p : Rep F H M x v) (r : RelH F H M) (h : pyOf M x = some d) : Dp F.K H v d := by
  unfold pyOf at h
  split at h
  · rename_i a
    split at h
    · rename_i ds e
      obtain ⟨vs, h1, h2⟩ := r.ob _ _ e
      cases p
      cases e2 : pyFs ds with
      | none => rw [e2] at h; cases h
      | some es => rw [e2] at h; cases h; exact .lst (.inl (.inl h1)) (pyDps ds h2 e2)
    · cases h
  · exact pyDp _ p h
theorem lsDp {x : D} {v : V} {ds : List D} {es : List PyData} (p : Rep F H M x v) (r : RelH F H M) (h : lsOf M x = some ds) (e : pyFs ds = some es) : Dp F.K H v (.list es) := by
  obtain ⟨a, vs, rfl, h1, h2⟩ := lsRep p r h
  exact .lst h1 (pyDps ds h2 e)
theorem intsRep : ∀ {ds : List D} {vs : List V} {ns : List Int}, Reps F H M ds vs → intsOf ds = some ns → vs = ns.map V.int
  | [], _, _, .nil, h => by cases h; rfl
  | .int i :: r, _, ns, .cons h1 h2, h => by
    unfold intsOf at h
    cases e : intsOf r with
    | none => rw [e] at h; cases h
    | some ms => rw [e] at h; cases h; cases h1; rw [intsRep h2 e]; rfl
  | .non :: r, _, ns, _, h => by cases h
  | .bl _ :: r, _, ns, _, h => by cases h
  | .str _ :: r, _, ns, _, h => by cases h
  | .tup _ :: r, _, ns, _, h => by cases h
  | .lst _ :: r, _, ns, _, h => by cases h
  | .dic _ :: r, _, ns, _, h => by cases h
  | .ins _ _ :: r, _, ns, _, h => by cases h
  | .ref _ :: r, _, ns, _, h => by cases h
  | .glo _ :: r, _, ns, _, h => by cases h
theorem blsRep : ∀ {ds : List D} {vs : List V} {ns : List Bool}, Reps F H M ds vs → blsOf ds = some ns → vs = ns.map V.bl
  | [], _, _, .nil, h => by cases h; rfl
  | .bl i :: r, _, ns, .cons h1 h2, h => by
    unfold blsOf at h
    cases e : blsOf r with
    | none => rw [e] at h; cases h
    | some ms => rw [e] at h; cases h; cases h1; rw [blsRep h2 e]; rfl
  | .non :: r, _, ns, _, h => by cases h
  | .int _ :: r, _, ns, _, h => by cases h
  | .str _ :: r, _, ns, _, h => by cases h
  | .tup _ :: r, _, ns, _, h => by cases h
  | .lst _ :: r, _, ns, _, h => by cases h
  | .dic _ :: r, _, ns, _, h => by cases h
  | .ins _ _ :: r, _, ns, _, h => by cases h
  | .ref _ :: r, _, ns, _, h => by cases h
  | .glo _ :: r, _, ns, _, h => by cases h
end
/-- what follows -/
def Cont (X : Cx) (an : An) (P : Addr → Prop) (H : Hp) (M : Mp) (R : QE) (Q : VK) : Prop := ∀ d M', R d M' → ∀ v H', Ext H M H' M' → RelH (wd X an P) H' M' → Rep (wd X an P) H' M' d v → Q v H'
section
variable {X : Cx} {an : An} {P : Addr → Prop} {H : Hp} {M : Mp} {R : QE} {Q : VK}
theorem Cont.here (k : Cont X an P H M R Q) (r : RelH (wd X an P) H M) {d : D} {v : V} (h : R d M) (p : Rep (wd X an P) H M d v) : Q v H := k _ _ h _ _ .refl r p
theorem newL_ok (k : Cont X an P H M R Q) (r : RelH (wd X an P) H M) {m : Bool} {ds : List D} {vs : List V} (h : newL m ds M R) (p : Reps (wd X an P) H M ds vs) : ∀ q, H q = none → Q (.ref q) (upd H q (.lst vs)) := by
  intro q hq
  cases m with
  | true => exact k _ _ (h q (r.free hq)) _ _ (Ext.new hq (r.free hq)) (r.new hq ⟨vs, upd_same, p.ext (Ext.new hq (r.free hq))⟩) (.ref q)
  | false => exact k _ _ h _ _ (Ext.newF hq) (r.newF hq) (.lst upd_same (r.free hq) (r.nop hq) (p.ext (Ext.newF hq)))
/-- a new dict, by address, or by what is in it and locked -/
theorem newDc_ok (k : Cont X an P H M R Q) (r : RelH (wd X an P) H M) {m : Bool} {ds : List (Key × D)} {vs : List (Key × V)} (h : newDc m ds M R) (p : RepK (wd X an P) H M ds vs) : ∀ q, H q = none → Q (.ref q) (upd H q (.dK vs)) ∨ ∃ kvs, upd H q (.dK vs) q = some (.dK kvs) ∧ ∀ od, Q (.ref q) (upd (upd H q (.dK vs)) q (.frz od (.dK kvs))) := by
  intro q hq
  cases m with
  | true => exact .inl (k _ _ (h q (r.free hq)) _ _ (Ext.new hq (r.free hq)) (r.new hq ⟨vs, upd_same, p.ext (Ext.new hq (r.free hq))⟩) (.ref q))
  | false =>
    refine .inr ⟨vs, upd_same, fun od => ?_⟩
    have e : upd (upd H q (.dK vs)) q (.frz od (.dK vs)) = upd H q (.frz od (.dK vs)) := by
      funext b
      by_cases hb : b = q
      · subst hb; rw [upd_same, upd_same]
      · rw [upd_ne hb, upd_ne hb, upd_ne hb]
    rw [e]
    exact k _ _ h _ _ (Ext.newF hq) (r.newF hq) (.dic upd_same (r.free hq) (r.nop hq) (p.ext (Ext.newF hq)))
theorem newT_ok (k : Cont X an P H M R Q) (r : RelH (wd X an P) H M) {ds : List D} {vs : List V} (h : R (.tup ds) M) (p : Reps (wd X an P) H M ds vs) : ∀ q, H q = none → Q (.ref q) (upd H q (.tup vs)) := by
  intro q hq
  exact k _ _ h _ _ (Ext.newF hq) (r.newF hq) (.tup (SqT.of upd_same) (p.ext (Ext.newF hq)))
end
/-- what is made may be locked -/
theorem PE.lk {X : Cx} {e : Expr} {t : TE} (h : PE X e t) : PE X e fun σ H Q => t σ H fun v H' => Q v H' ∨ ∃ p kvs, v = .ref p ∧ H' p = some (.dK kvs) ∧ ∀ od, Q (.ref p) (upd H' p (.frz od (.dK kvs))) := by
  refine ⟨fun pins s σ H Q I w => thn (h.run pins s σ H _ I w) fun v s1 ⟨x, H1, I1, r1, q⟩ => ?_⟩
  rcases q with q | ⟨p, kvs, e1, e2, q⟩
  · exact ⟨x, H1, I1, r1, q⟩
  · obtain ⟨od, I2⟩ := I1.lock e2 trivial
    exact ⟨_, _, I2, e1 ▸ r1, q od⟩
theorem PSs.lk {X : Cx} {ss : List Stmt} {t : TS} (h : PSs X ss t) : PSs X ss fun Dn σ H => t Dn σ H ∨ ∃ p kvs, H p = some (.dK kvs) ∧ ∀ od, t Dn σ (upd H p (.frz od (.dK kvs))) := by
  refine ⟨fun pins s σ H Dn I w => ?_⟩
  rcases w with w | ⟨p, kvs, e2, q⟩
  · exact h.run pins s σ H Dn I w
  · obtain ⟨od, I2⟩ := I.lock e2 trivial
    exact h.run pins s σ _ Dn I2 (q od)
/-- a step on two values, over data -/
def lift2 (X : Cx) (an : An) (r : D → D → Mp → QE → Prop) : R2 := fun v u H Q => ∃ P x y M R, Rep (wd X an P) H M x v ∧ Rep (wd X an P) H M y u ∧ RelH (wd X an P) H M ∧ r x y M R ∧ Cont X an P H M R Q
def liftN (X : Cx) (an : An) (r : List D → Mp → QE → Prop) : List V → Hp → VK → Prop := fun vs H Q => ∃ P ds M R, Reps (wd X an P) H M ds vs ∧ RelH (wd X an P) H M ∧ r ds M R ∧ Cont X an P H M R Q
section
variable {X : Cx} {an : An}
theorem binD_ok (m : Bool) (op : Operator) : OpR X (binaryOp op) (lift2 X an (binD m op)) := by
  intro pins s σ H v u vv uu Q I rv ru h
  obtain ⟨P, x, y, M, R, px, py, rh, h, k⟩ := h
  unfold binD at h
  split at h
  · cases px; cases py; exact op_add pins s σ H _ _ _ _ Q I rv ru ⟨_, _, rfl, rfl, k.here rh h (.int _)⟩
  · cases px; cases py; exact op_sub pins s σ H _ _ _ _ Q I rv ru ⟨_, _, rfl, rfl, k.here rh h (.int _)⟩
  · cases px; cases py; exact op_mul pins s σ H _ _ _ _ Q I rv ru ⟨_, _, rfl, rfl, h.1, k.here rh h.2 (.int _)⟩
  · cases px; cases py; exact op_fdivN pins s σ H _ _ _ _ Q I rv ru ⟨_, _, rfl, rfl, h.1, k.here rh h.2 (.int _)⟩
  · cases px; cases py; exact op_modN pins s σ H _ _ _ _ Q I rv ru ⟨_, _, rfl, rfl, h.1, k.here rh h.2 (.int _)⟩
  · cases px; cases py; exact op_pow pins s σ H _ _ _ _ Q I rv ru ⟨_, _, rfl, rfl, h.1, k.here rh h.2 (.int _)⟩
  · cases px; cases py; exact op_shl pins s σ H _ _ _ _ Q I rv ru ⟨_, _, rfl, rfl, h.1, k.here rh h.2 (.int _)⟩
  · cases px; cases py; exact op_shr pins s σ H _ _ _ _ Q I rv ru ⟨_, _, rfl, rfl, h.1, k.here rh h.2 (.int _)⟩
  · cases px; cases py; exact op_and pins s σ H _ _ _ _ Q I rv ru ⟨_, _, rfl, rfl, k.here rh h (.int _)⟩
  · cases px; cases py; exact op_or pins s σ H _ _ _ _ Q I rv ru ⟨_, _, rfl, rfl, k.here rh h (.int _)⟩
  · cases px; cases py; exact op_xor pins s σ H _ _ _ _ Q I rv ru ⟨_, _, rfl, rfl, k.here rh h (.int _)⟩
  · cases px; cases py; exact op_add_str pins s σ H _ _ _ _ Q I rv ru ⟨_, _, rfl, rfl, h.1, k.here rh h.2 (.str _)⟩
  · cases px with
    | tup h1 h2 =>
      cases py with
      | tup h3 h4 =>
        refine op_catA pins s σ H _ _ _ _ Q I rv ru ⟨_, _, _, _, rfl, rfl, h1, h3, by rw [← h2.length, ← h4.length]; exact h.1, fun e => ?_, fun _ e => ?_, fun _ _ p hp => newT_ok k rh h.2 (h2.append h4) p hp⟩
        · subst e; cases h2; exact k.here rh h.2 (.tup h3 h4)
        · subst e; cases h4; exact k.here rh h.2 (.tup h1 (by rw [List.append_nil]; exact h2))
  · cases px with
    | tup h1 h2 =>
      cases py
      obtain ⟨n1, n2, n3, n4, h⟩ := h
      refine op_repA pins s σ H _ _ _ _ Q I rv ru ⟨_, _, _, rfl, rfl, h1, fun e => ?_, n2, n3, by rw [← h2.length]; exact n4, fun e => ?_, fun _ p hp => newT_ok k rh h (h2.rep _) p hp⟩
      · subst e; cases h2; exact n1 rfl
      · subst e
        have q : ∀ {α : Type} (l : List α), (List.replicate (Int.toNat 1) l).flatten = l := fun l => by show (List.replicate 1 l).flatten = l; simp
        rw [q] at h
        exact k.here rh h (.tup h1 h2)
  · split at h
    · rename_i e1 e2
      obtain ⟨a, vs, rfl, a1, a2⟩ := lmRep px rh e1
      obtain ⟨b, us, rfl, b1, b2⟩ := lmRep py rh e2
      exact op_cat pins s σ H _ _ _ _ Q I rv ru ⟨_, _, _, _, rfl, rfl, a1, b1, by rw [← a2.length, ← b2.length]; exact h.1, fun p hp => newL_ok k rh h.2 (a2.append b2) p hp⟩
    · cases h
  · split at h
    · rename_i e1
      obtain ⟨a, vs, rfl, a1, a2⟩ := lmRep px rh e1
      cases py
      obtain ⟨n1, n2, h⟩ := h
      exact op_rep pins s σ H _ _ _ _ Q I rv ru ⟨_, _, _, rfl, rfl, a1, by omega, by omega, by rw [← a2.length]; exact n2, fun p hp => newL_ok k rh h (a2.rep _) p hp⟩
    · cases h
  · cases h
theorem augD_ok (op : Operator) : PIp X op (lift2 X an (augD op)) := by
  intro pins s σ H v u vv uu Q I rv ru h
  obtain ⟨P, x, y, M, R, px, py, rh, h, k⟩ := h
  unfold augD at h
  split at h
  · cases px; cases py; exact iop_add pins s σ H _ _ _ _ Q I rv ru ⟨_, _, rfl, rfl, k.here rh h (.int _)⟩
  · cases px; cases py; exact iop_sub pins s σ H _ _ _ _ Q I rv ru ⟨_, _, rfl, rfl, k.here rh h (.int _)⟩
  · cases px; cases py; exact iop_mul pins s σ H _ _ _ _ Q I rv ru ⟨_, _, rfl, rfl, h.1, k.here rh h.2 (.int _)⟩
  · cases px; cases py; exact iop_fdiv pins s σ H _ _ _ _ Q I rv ru ⟨_, _, rfl, rfl, h.1, k.here rh h.2 (.int _)⟩
  · cases px; cases py; exact iop_mod pins s σ H _ _ _ _ Q I rv ru ⟨_, _, rfl, rfl, h.1, k.here rh h.2 (.int _)⟩
  · cases px; cases py; exact iop_shl pins s σ H _ _ _ _ Q I rv ru ⟨_, _, rfl, rfl, h.1, k.here rh h.2 (.int _)⟩
  · cases px; cases py; exact iop_shr pins s σ H _ _ _ _ Q I rv ru ⟨_, _, rfl, rfl, h.1, k.here rh h.2 (.int _)⟩
  · cases px; cases py; exact iop_and pins s σ H _ _ _ _ Q I rv ru ⟨_, _, rfl, rfl, k.here rh h (.int _)⟩
  · cases px; cases py; exact iop_or pins s σ H _ _ _ _ Q I rv ru ⟨_, _, rfl, rfl, k.here rh h (.int _)⟩
  · cases px; cases py; exact iop_xor pins s σ H _ _ _ _ Q I rv ru ⟨_, _, rfl, rfl, k.here rh h (.int _)⟩
  · cases px; cases py; exact iop_add_str pins s σ H _ _ _ _ Q I rv ru ⟨_, _, rfl, rfl, h.1, k.here rh h.2 (.str _)⟩
  · cases h
theorem repN {F : Wd} {H : Hp} {M : Mp} {x : D} {v : V} (p : Rep F H M x v) : decide (v = .non) = isN x := by
  cases p with
  | glo h r n => simp [n, isN]
  | _ => simp [isN]
theorem isN_eq {x : D} (h : isN x = true) : x = .non := by cases x <;> first | rfl | cases h
theorem inD_in (hu : X.A.units + 65 < cLine) {pins : List (Addr × Obj)} {s : Shared} {σ : L2.St} {H : Hp} {v u : V} {vv uu : Value} {Q : VK} (I : Inv X pins σ H s) (rv : RelV v vv) (ru : RelV u uu) {P : Addr → Prop} {x y : D} {M : Mp} {R : QE}
    (px : Rep (wd X an P) H M x v) (py : Rep (wd X an P) H M y u) (rh : RelH (wd X an P) H M) (h : inD x y M fun z => R (.bl (z))) (k : Cont X an P H M R Q) : wpAny (model X.prog X.w) X.A (compareOp .In vv uu) (EP X pins σ Q) X.xe s := by
  unfold inD at h
  split at h
  · split at h
    · rename_i e1 e2
      cases py with
      | tup h1 h2 => exact op_inT hu pins s σ H _ _ _ _ Q I rv ru ⟨_, _, pyDp _ px e2, .tup h1 (pyDps _ h2 e1), h.1, h.2.1, k.here rh h.2.2 (.bl _)⟩
    · cases h
  · split at h
    · cases px; cases py; exact op_in_str pins s σ H _ _ _ _ Q I rv ru ⟨_, _, rfl, rfl, k.here rh h (.bl _)⟩
    · cases h
  · split at h
    · rename_i e1
      split at h
      · rename_i e3 e2
        exact op_inD hu pins s σ H _ _ _ _ Q I rv ru ⟨_, _, pyDp _ px e2, lsDp py rh e1 e3, h.1, h.2.1, k.here rh h.2.2 (.bl _)⟩
      · cases h
    · split at h
      · rename_i e1 e2
        obtain ⟨a, vs, rfl, a1, a2⟩ := dcRep py rh e1
        obtain rfl := keyRep px e2
        obtain rfl : uu = Value.ref a := ru
        refine d_in (by omega) I (.inl ⟨vs, _, a1, rfl, rfl⟩) rv fun s' I' => ⟨.bl _, H, I', rfl, ?_⟩
        rw [a2.isSome]
        exact k.here rh h (.bl _)
      · cases h
theorem inD_not (hu : X.A.units + 65 < cLine) {pins : List (Addr × Obj)} {s : Shared} {σ : L2.St} {H : Hp} {v u : V} {vv uu : Value} {Q : VK} (I : Inv X pins σ H s) (rv : RelV v vv) (ru : RelV u uu) {P : Addr → Prop} {x y : D} {M : Mp} {R : QE}
    (px : Rep (wd X an P) H M x v) (py : Rep (wd X an P) H M y u) (rh : RelH (wd X an P) H M) (h : inD x y M fun z => R (.bl (!z))) (k : Cont X an P H M R Q) : wpAny (model X.prog X.w) X.A (compareOp .NotIn vv uu) (EP X pins σ Q) X.xe s := by
  unfold inD at h
  split at h
  · split at h
    · rename_i e1 e2
      cases py with
      | tup h1 h2 => exact op_notInT hu pins s σ H _ _ _ _ Q I rv ru ⟨_, _, pyDp _ px e2, .tup h1 (pyDps _ h2 e1), h.1, h.2.1, k.here rh h.2.2 (.bl _)⟩
    · cases h
  · split at h
    · cases px; cases py; exact op_notin_str pins s σ H _ _ _ _ Q I rv ru ⟨_, _, rfl, rfl, k.here rh h (.bl _)⟩
    · cases h
  · split at h
    · rename_i e1
      split at h
      · rename_i e3 e2
        exact op_notInD hu pins s σ H _ _ _ _ Q I rv ru ⟨_, _, pyDp _ px e2, lsDp py rh e1 e3, h.1, h.2.1, k.here rh h.2.2 (.bl _)⟩
      · cases h
    · split at h
      · rename_i e1 e2
        obtain ⟨a, vs, rfl, a1, a2⟩ := dcRep py rh e1
        obtain rfl := keyRep px e2
        obtain rfl : uu = Value.ref a := ru
        refine d_notIn (by omega) I (.inl ⟨vs, _, a1, rfl, rfl⟩) rv fun s' I' => ⟨.bl _, H, I', rfl, ?_⟩
        rw [a2.isSome]
        exact k.here rh h (.bl _)
      · cases h
theorem cmpD_ok (op : CmpOp) (hu : X.A.units + 65 < cLine) : OpR X (compareOp op) (lift2 X an (cmpD op)) := by
  have hu' : X.A.units + 64 < cLine := by omega
  intro pins s σ H v u vv uu Q I rv ru h
  obtain ⟨P, x, y, M, R, px, py, rh, h, k⟩ := h
  unfold cmpD at h
  split at h
  · split at h
    · rename_i e1 e2
      exact op_eqD hu' pins s σ H _ _ _ _ Q I rv ru ⟨_, _, pyOfDp px rh e1, pyOfDp py rh e2, h.1, h.2.1, k.here rh h.2.2 (.bl _)⟩
    · cases h
  · split at h
    · rename_i e1 e2
      exact op_neD hu' pins s σ H _ _ _ _ Q I rv ru ⟨_, _, pyOfDp px rh e1, pyOfDp py rh e2, h.1, h.2.1, k.here rh h.2.2 (.bl _)⟩
    · cases h
  · split at h
    · cases px; cases py; exact op_lt pins s σ H _ _ _ _ Q I rv ru ⟨_, _, rfl, rfl, k.here rh h (.bl _)⟩
    · cases h
  · split at h
    · cases px; cases py; exact op_le pins s σ H _ _ _ _ Q I rv ru ⟨_, _, rfl, rfl, k.here rh h (.bl _)⟩
    · cases h
  · split at h
    · cases px; cases py; exact op_gt pins s σ H _ _ _ _ Q I rv ru ⟨_, _, rfl, rfl, k.here rh h (.bl _)⟩
    · cases h
  · split at h
    · cases px; cases py; exact op_ge pins s σ H _ _ _ _ Q I rv ru ⟨_, _, rfl, rfl, k.here rh h (.bl _)⟩
    · cases h
  · have e := isN_eq h.1
    subst e
    cases py
    exact op_isN pins s σ H _ _ _ _ Q I rv ru ⟨rfl, by rw [repN px]; exact k.here rh h.2 (.bl _)⟩
  · have e := isN_eq h.1
    subst e
    cases py
    exact op_notN pins s σ H _ _ _ _ Q I rv ru ⟨rfl, by rw [repN px]; exact k.here rh h.2 (.bl _)⟩
  · exact inD_in hu I rv ru px py rh h k
  · exact inD_not hu I rv ru px py rh h k
theorem atI_rep {F : Wd} {H : Hp} {M : Mp} {ds : List D} {vs : List V} {i : Int} {d : D} (p : Reps F H M ds vs) (h : atI ds i = some d) : ∃ v, atI vs i = some v ∧ Rep F H M d v := by
  unfold atI at h ⊢
  rw [← p.length]
  cases e : ixN ds.length i with
  | none => rw [e] at h; cases h
  | some j =>
    rw [e] at h
    exact p.get h
theorem ixD_ok (hu : X.A.units + 65 < cLine) : IxR X (lift2 X an ixD) := by
  intro value slice pins s σ H v u vv uu Q I rv ru h hs
  obtain ⟨P, x, y, M, R, px, py, rh, h, k⟩ := h
  unfold ixD at h
  split at h
  · split at h
    · obtain ⟨h0, h⟩ := h
      split at h
      · rename_i e2
        cases px; cases py
        exact ix_str value slice pins s σ H _ _ _ _ Q I rv ru ⟨_, _, _, rfl, rfl, h0, e2, k.here rh h (.str _)⟩ hs
      · cases h
    · cases h
  · split at h
    · rename_i e1
      split at h
      · split at h
        · rename_i e2
          obtain ⟨a, vs, rfl, h1, h2⟩ := sqRep px rh e1
          obtain ⟨w, h3, h4⟩ := atI_rep h2 e2
          cases py
          rcases h1 with h1 | h1
          · exact ix_list value slice pins s σ H _ _ _ _ Q I rv ru ⟨_, _, _, _, rfl, rfl, h1, h3, k.here rh h h4⟩ hs
          · exact ix_tup value slice pins s σ H _ _ _ _ Q I rv ru ⟨_, _, _, _, rfl, rfl, h1, h3, k.here rh h h4⟩ hs
        · cases h
      · cases h
    · split at h
      · rename_i e1 e2
        split at h
        · rename_i e3
          obtain ⟨a, vs, rfl, a1, a2⟩ := dcRep px rh e1
          obtain rfl := keyRep py e2
          obtain rfl : vv = Value.ref a := rv
          obtain ⟨w, e4, e5⟩ := a2.some e3
          have g : DGet H a (kV _) (some w) := .inl ⟨vs, _, a1, rfl, e4.symm⟩
          refine subscriptTail_any (dict_typeIs I g) PySem.F.slot_dict_getitem.lookup (d_getItem (by omega) I g ru fun w' s' I' r' => ⟨w, H, I', r', k.here rh h e5⟩) hs
        · cases h
      · cases h
def liftSet (X : Cx) (an : An) : TSet := fun o i v H Q => ∃ P x y d M R, Rep (wd X an P) H M x o ∧ Rep (wd X an P) H M y i ∧ Rep (wd X an P) H M d v ∧ RelH (wd X an P) H M ∧ setD x y d M R ∧ ∀ M', R M' → ∀ H', Ext H M H' M' → RelH (wd X an P) H' M' → Q H'
theorem setD_ok (hu : X.A.units + 65 < cLine) : PSet X (liftSet X an) := by
  intro pins s σ H o i v ov iv u Q I ro ri rv ⟨P, x, y, d, M, R, px, py, pd, rh, h, k⟩
  unfold setD at h
  split at h
  · cases px
    split at h
    · rename_i ds em
      split at h
      · split at h
        · rename_i j ej
          cases py
          obtain ⟨vs, q1, q2⟩ := rh.ob _ _ em
          rw [q2.length] at ej
          have e3 := Ext.wr (H := H) (o' := .lst (ds.set j d)) (u := .lst (vs.set j v)) em (rh.ob _ _ em).notup
          exact set_list pins s σ H _ _ _ ov iv u Q I ro ri rv ⟨_, vs, _, j, rfl, rfl, q1, ej, k _ h _ e3 (rh.wr em ⟨_, upd_same, (q2.set pd j).ext e3⟩)⟩
        · cases h
      · cases h
    · rename_i kvs em
      split at h
      · rename_i kk ek
        obtain rfl := keyRep py ek
        obtain ⟨vs, q1, q2⟩ := rh.ob _ _ em
        obtain rfl : ov = Value.ref _ := ro
        have e3 := Ext.wr (H := H) (o' := .dic (putKD kvs kk d)) (u := .dK (putK vs kk v)) em (rh.ob _ _ em).notup
        exact d_setItem (by omega) I (.inl ⟨vs, kk, q1, rfl, by rw [← q2.length]; exact h.1, rfl⟩) ri rv fun s' I' => ⟨_, I', k _ h.2 _ e3 (rh.wr em ⟨_, upd_same, (q2.put pd).ext e3⟩)⟩
      · cases h
    · cases h
  · cases h
theorem getD_ok (hu : X.A.units + 65 < cLine) : PGet X (lift2 X an fun x y M Q => isRf x = true ∧ ixD x y M Q) := by
  intro pins s σ H o i ov iv Q I ro ri ⟨P, x, y, M, R, px, py, rh, ⟨hr, h⟩, k⟩
  cases x with
  | ref p =>
    cases px
    unfold ixD at h
    dsimp only at h
    split at h
    · rename_i ds e1
      split at h
      · split at h
        · rename_i d e2
          obtain ⟨a, vs, e3, h1, h2⟩ := lsRep (.ref p) rh (show lsOf M (.ref p) = some ds from e1)
          cases e3
          obtain ⟨w, h3, h4⟩ := atI_rep h2 e2
          cases py
          exact pg_list pins s σ H _ _ ov iv Q I ro ri ⟨_, _, _, _, rfl, rfl, h1, h3, k.here rh h h4⟩
        · cases h
      · cases h
    · split at h
      · rename_i e1 e2
        split at h
        · rename_i e3
          obtain ⟨a, vs, e4, a1, a2⟩ := dcRep (.ref p) rh e1
          cases e4
          obtain rfl := keyRep py e2
          obtain rfl : ov = Value.ref _ := ro
          obtain ⟨w, e4, e5⟩ := a2.some e3
          exact d_getItem (by omega) I (.inl ⟨vs, _, a1, rfl, e4.symm⟩) ri fun w' s' I' r' => ⟨w, H, I', r', k.here rh h e5⟩
        · cases h
      · cases h
  | _ => cases hr
theorem cut_rep {F : Wd} {H : Hp} {M : Mp} {ds : List D} {vs : List V} {lo hi : Option Int} (p : Reps F H M ds vs) : Reps F H M (cutD ds lo hi) (cutV vs lo hi) := by
  unfold cutD cutV
  rw [p.length]
  exact (p.drop _).take _
theorem cut_whole {α : Type} {xs : List α} {lo hi : Option Int} (h : HT.sIx xs.length 0 lo = 0 ∧ HT.sIx xs.length xs.length hi = xs.length) : cutD xs lo hi = xs := by
  unfold cutD
  rw [h.1, h.2]
  simp
def liftSl (X : Cx) (an : An) (r : D → Option Int → Option Int → Mp → QE → Prop) : V → Option Int → Option Int → Hp → VK → Prop := fun v lo hi H Q => ∃ P x M R, Rep (wd X an P) H M x v ∧ RelH (wd X an P) H M ∧ r x lo hi M R ∧ Cont X an P H M R Q
theorem slD_ok (m : Bool) : SlR X (liftSl X an (slD m)) := by
  intro pins s σ H v vv vl vu lo hi sl Q I rv hs pl pu h
  obtain ⟨P, x, M, R, px, rh, h, k⟩ := h
  unfold slD at h
  split at h
  · cases px with
    | tup h1 h2 =>
      refine sl_tupA pins s σ H _ _ vl vu lo hi sl Q I rv hs pl pu ⟨_, _, rfl, h1, fun e => ?_, fun _ p hp => newT_ok k rh h (cut_rep h2) p hp⟩
      rw [cut_whole (by rw [h2.length]; exact e)] at h
      exact k.here rh h (.tup h1 h2)
  · cases px
    exact sl_str pins s σ H _ _ vl vu lo hi sl Q I rv hs pl pu ⟨_, rfl, h.1, k.here rh h.2 (.str _)⟩
  · split at h
    · rename_i e1
      obtain ⟨a, vs, rfl, h1, h2⟩ := lsRep px rh e1
      exact sl_list pins s σ H _ _ vl vu lo hi sl Q I rv hs pl pu ⟨_, _, rfl, h1, fun p hp => newL_ok k rh h (cut_rep h2) p hp⟩
    · cases h
/-! calls -/
theorem each_reps {K : PySem.W.Frag} {F : Wd} {H : Hp} {M : Mp} : ∀ {ds : List D} {vs : List V} {es : List PyData}, Reps F H M ds vs → pyFs ds = some es → PySem.W.EachIs (fun d z => Rep F H M d z.1 ∧ pyF d = some z.2) ds (vs.zip es)
  | [], _, es, p, e => by
    cases p
    unfold pyFs at e
    cases e; exact .nil
  | d :: ds, _, es, p, e => by
    cases p with
    | cons p1 p2 =>
      unfold pyFs at e
      cases e1 : pyF d with
      | none => rw [e1] at e; cases e
      | some x =>
        cases e2 : pyFs ds with
        | none => rw [e1, e2] at e; cases e
        | some xs =>
          rw [e1, e2] at e
          cases e
          exact .cons ⟨p1, e1⟩ (each_reps (K := K) p2 e2)
theorem reps_each {F : Wd} {H : Hp} {M : Mp} : ∀ {ds : List D} {zs : List (V × PyData)}, PySem.W.EachIs (fun d z => Rep F H M d z.1 ∧ pyF d = some z.2) ds zs → Reps F H M ds (zs.map Prod.fst)
  | _, _, .nil => .nil
  | _, _, .cons a r => .cons a.1 (reps_each r)
theorem sort_reps {F : Wd} {H : Hp} {M : Mp} {ds : List D} {vs : List V} {es : List PyData} (p : Reps F H M ds vs) (e : pyFs ds = some es) : Reps F H M (ds.mergeSort (PySem.W.dataLe false pyD)) (((vs.zip es).mergeSort (PySem.W.dataLe false Prod.snd)).map Prod.fst) := by
  have h := each_reps (K := F.K) p e
  refine reps_each (PySem.W.sort_each h fun a ha b hb => ?_)
  have h1 := (h.zip a ha).2
  have h2 := (h.zip b hb).2
  rw [PySem.W.dataLe_eq, PySem.W.dataLe_eq]
  unfold pyD
  dsimp only
  rw [h1, h2]; rfl
theorem len_pyFs : ∀ {ds : List D} {es : List PyData}, pyFs ds = some es → es.length = ds.length
  | [], _, e => by unfold pyFs at e; cases e; rfl
  | d :: ds, es, e => by
    unfold pyFs at e
    cases e1 : pyF d with
    | none => rw [e1] at e; cases e
    | some x =>
      cases e2 : pyFs ds with
      | none => rw [e1, e2] at e; cases e
      | some xs =>
        rw [e1, e2] at e
        cases e
        rw [List.length_cons, List.length_cons, len_pyFs e2]
theorem dp_zip {K : PySem.W.Frag} {H : Hp} {vs : List V} {es : List PyData} (p : DpAll K H vs es) : ∀ z ∈ vs.zip es, Dp K H z.1 z.2 := by
  induction vs generalizing es with
  | nil => intro z h; simp at h
  | cons v vs ih =>
    cases p with
    | cons p1 p2 =>
      intro z h
      rw [List.zip_cons_cons] at h
      rcases List.mem_cons.mp h with q | q
      · subst q; exact p1
      · exact ih p2 z q
theorem bltD_ok (hc : X.calm = true) (hu : X.A.units + 65 < cLine) (m : Bool) (f : BF) : CallR X (.builtin f.id) (liftN X an (bltD m f)) := by
  intro pins s σ H vs us Q I rv h
  obtain ⟨P, ds, M, R, p, rh, h, k⟩ := h
  unfold bltD at h
  split at h
  · cases p with
    | cons p1 p2 =>
      cases p2
      split at h
      · cases p1
        exact call_len pins s σ H _ _ Q I rv ⟨_, _, rfl, ⟨h.1, rfl⟩, k.here rh h.2 (.int _)⟩
      · split at h
        · rename_i e1
          obtain ⟨a, vs, rfl, h1, h2⟩ := sqRep p1 rh e1
          rw [h2.length] at h
          rcases h1 with h1 | h1
          · exact call_len pins s σ H _ _ Q I rv ⟨_, _, rfl, .inl ⟨_, h1, rfl⟩, k.here rh (h (Inv.lenOk I _ _ (.inl h1))) (.int _)⟩
          · exact call_len pins s σ H _ _ Q I rv ⟨_, _, rfl, .inr ⟨_, h1, rfl⟩, k.here rh (h (Inv.lenOk I _ _ (.inr h1))) (.int _)⟩
        · split at h
          · rename_i e1
            obtain ⟨a, vs, rfl, a1, a2⟩ := dcRep p1 rh e1
            obtain ⟨u, rfl, ru⟩ := vals1 rv
            obtain rfl : u = Value.ref a := ru
            refine d_len I a1 fun t s' I' => ⟨.int _, H, I', ⟨t, rfl⟩, ?_⟩
            rw [← a2.length]
            exact k.here rh h (.int _)
          · cases h
  · cases p with
    | cons p1 p2 =>
      cases p2
      split at h
      · rename_i e1
        split at h
        · rename_i e2
          obtain ⟨a, vs, rfl, h1, h2⟩ := lsRep p1 rh e1
          obtain rfl := blsRep h2 e2
          exact cr_all hc pins s σ H _ _ Q I rv ⟨_, _, rfl, h1, k.here rh h (.bl _)⟩
        · cases h
      · cases h
  · cases p with
    | cons p1 p2 =>
      cases p2
      split at h
      · rename_i e1
        split at h
        · rename_i e2
          obtain ⟨a, vs, rfl, h1, h2⟩ := lsRep p1 rh e1
          obtain rfl := blsRep h2 e2
          exact cr_any hc pins s σ H _ _ Q I rv ⟨_, _, rfl, h1, k.here rh h (.bl _)⟩
        · cases h
      · cases h
  · cases p with
    | cons p1 p2 =>
      cases p2
      split at h
      · rename_i e1
        split at h
        · rename_i e2
          obtain ⟨a, vs, rfl, h1, h2⟩ := lsRep p1 rh e1
          obtain rfl := intsRep h2 e2
          exact cr_sum hc pins s σ H _ _ Q I rv ⟨_, _, rfl, h1, k.here rh h (.int _)⟩
        · cases h
      · cases h
  · cases p with
    | cons p1 p2 =>
      cases p2; cases p1
      exact call_abs pins s σ H _ _ Q I rv ⟨_, rfl, k.here rh h (.int _)⟩
  · cases p with
    | cons p1 p2 =>
      cases p2 with
      | cons p2 p3 =>
        cases p1; cases p2; cases p3
        exact call_max2 hc pins s σ H _ _ Q I rv ⟨_, _, rfl, k.here rh h (.int _)⟩
  · cases p with
    | cons p1 p2 =>
      cases p2
      split at h
      · rename_i e1
        split at h
        · rename_i e2
          obtain ⟨a, vs, rfl, h1, h2⟩ := lsRep p1 rh e1
          obtain rfl := intsRep h2 e2
          exact cr_max hc pins s σ H _ _ Q I rv ⟨_, _, rfl, h1, h.1, fun m hm hy => k.here rh (h.2 m hm hy) (.int _)⟩
        · cases h
      · cases h
  · cases p with
    | cons p1 p2 =>
      cases p2 with
      | cons p2 p3 =>
        cases p1; cases p2; cases p3
        exact call_min2 hc pins s σ H _ _ Q I rv ⟨_, _, rfl, k.here rh h (.int _)⟩
  · cases p with
    | cons p1 p2 =>
      cases p2
      split at h
      · rename_i e1
        split at h
        · rename_i e2
          obtain ⟨a, vs, rfl, h1, h2⟩ := lsRep p1 rh e1
          obtain rfl := intsRep h2 e2
          exact cr_min hc pins s σ H _ _ Q I rv ⟨_, _, rfl, h1, h.1, fun m hm hy => k.here rh (h.2 m hm hy) (.int _)⟩
        · cases h
      · cases h
  · cases p with
    | cons p1 p2 =>
      cases p2
      split at h
      · rename_i ds1 e1
        split at h
        · rename_i es1 e2
          obtain ⟨a, vs, rfl, h1, h2⟩ := lsRep p1 rh e1
          have hl := h2.length
          have h3 := len_pyFs e2
          have z1 : (vs.zip es1).map Prod.fst = vs := List.map_fst_zip (by omega)
          have z2 : (vs.zip es1).map Prod.snd = es1 := List.map_snd_zip (by omega)
          exact cr_sortedV hu pins s σ H _ _ Q I rv ⟨a, vs.zip es1, rfl, z1.symm ▸ h1, dp_zip (pyDps _ h2 e2), z2.symm ▸ h.1, z2.symm ▸ h.2.1, fun z hz => h.2.2.1 _ (List.of_mem_zip hz).2, fun q hq => newL_ok k rh h.2.2.2 (sort_reps h2 e2) q hq⟩
        · cases h
      · cases h
  · cases h
theorem sq_cases {M : Mp} {x : D} {ds : List D} (h : sqOf M x = some ds) : x = .tup ds ∨ lsOf M x = some ds := by
  cases x with
  | tup es => cases h; exact .inl rfl
  | _ => exact .inr h
theorem btyD_ok (m : Bool) (f : BT) : CallR X (.type f.id) (liftN X an (btyD m f)) := by
  intro pins s σ H vs us Q I rv h
  obtain ⟨P, ds, M, R, p, rh, h, k⟩ := h
  unfold btyD at h
  split at h
  · cases p with
    | cons p1 p2 =>
      cases p2; cases p1
      exact call_int1 pins s σ H _ _ Q I rv (.inl ⟨_, rfl, k.here rh h (.int _)⟩)
  · cases p with
    | cons p1 p2 =>
      cases p2; cases p1
      exact call_int1 pins s σ H _ _ Q I rv (.inr ⟨_, rfl, k.here rh h (.int _)⟩)
  · cases p with
    | cons p1 p2 =>
      cases p2
      split at h
      · rename_i e1
        rcases sq_cases e1 with e2 | e2
        · subst e2
          cases p1 with
          | tup h1 h2 => exact call_tupleT pins s σ H _ _ Q I rv ⟨_, _, rfl, h1, k.here rh h (.tup h1 h2)⟩
        · obtain ⟨a, vs, rfl, h1, h2⟩ := lsRep p1 rh e2
          exact call_tuple_of pins s σ H _ _ Q I rv ⟨_, _, rfl, .inl ⟨h1, fun q hq => newT_ok k rh h h2 q hq⟩⟩
      · cases h
  · cases p with
    | cons p1 p2 =>
      cases p2
      split at h
      · rename_i e1
        obtain ⟨a, vs, rfl, h1, h2⟩ := sqRep p1 rh e1
        exact call_list_of pins s σ H _ _ Q I rv ⟨_, _, rfl, h1, fun q hq => newL_ok k rh h h2 q hq⟩
      · cases h
  · cases p with
    | cons p1 p2 =>
      cases p2; cases p1
      exact call_str_int pins s σ H _ _ Q I rv ⟨_, rfl, h.1, k.here rh h.2 (.str _)⟩
  · cases h
def liftM (X : Cx) (an : An) (r : D → List D → Mp → QE → Prop) : V → List V → Hp → VK → Prop := fun v vs H Q => ∃ P x ds M R, Rep (wd X an P) H M x v ∧ Reps (wd X an P) H M ds vs ∧ RelH (wd X an P) H M ∧ r x ds M R ∧ Cont X an P H M R Q
def BM.id : BM → String
  | .append => "list.append" | .pop => "list.pop" | .extend => "list.extend"
theorem dropLast_rep {F : Wd} {H : Hp} {M : Mp} {ds : List D} {vs : List V} (p : Reps F H M ds vs) : Reps F H M ds.dropLast vs.dropLast := by
  rw [List.dropLast_eq_take, List.dropLast_eq_take, p.length]
  exact p.take _
/-- a list of ours is changed -/
theorem wrL {P : Addr → Prop} {R : QE} {Q : VK} {H : Hp} {M : Mp} (k : Cont X an P H M R Q) (r : RelH (wd X an P) H M) {a : Addr} {ds es : List D} {us : List V} (e : M a = some (.lst ds)) {d : D} (h : R d (mset M a (.lst es))) (p : Reps (wd X an P) H M es us) {v : V} (pd : Rep (wd X an P) H M d v) :
    Q v (upd H a (.lst us)) := by
  have nt := (r.ob _ _ e).notup
  exact k _ _ h _ _ (Ext.wr e nt) (r.wr e ⟨us, upd_same, p.ext (Ext.wr e nt)⟩) (pd.ext (Ext.wr e nt))
theorem bmD_ok (f : BM) : MtM X f.id (liftM X an (bmD f)) := by
  intro pins s σ H v vs vv us Q I rv ru h
  obtain ⟨P, x, ds, M, R, px, p, rh, h, k⟩ := h
  unfold bmD at h
  split at h
  · cases px
    cases p with
    | cons p1 p2 =>
      cases p2
      split at h
      · rename_i e
        obtain ⟨vs, h1, h2⟩ := rh.ob _ _ e
        exact mt_append pins s σ H _ _ _ _ Q I rv ru ⟨_, _, _, rfl, rfl, h1, by rw [← h2.length]; exact h.1, wrL k rh e h.2 (h2.append (.cons p1 .nil)) .non⟩
      · cases h
  · cases px
    cases p
    split at h
    · rename_i e
      split at h
      · rename_i e2
        obtain ⟨vs, h1, h2⟩ := rh.ob _ _ e
        rw [h2.length] at e2
        obtain ⟨w, h3, h4⟩ := h2.get e2
        exact mt_pop pins s σ H _ _ _ _ Q I rv ru ⟨_, _, _, rfl, rfl, h1, h3, wrL k rh e h (dropLast_rep h2) h4⟩
      · cases h
    · cases h
  · cases px
    cases p with
    | cons p1 p2 =>
      cases p2
      split at h
      · rename_i e
        split at h
        · split at h
          · rename_i e2
            obtain ⟨vs, h1, h2⟩ := rh.ob _ _ e
            cases p1
            obtain ⟨us, h3, h4⟩ := rh.ob _ _ e2
            exact mt_extend pins s σ H _ _ _ _ Q I rv ru ⟨_, _, _, _, rfl, rfl, h1, h3, by rw [← h2.length, ← h4.length]; exact h.1, wrL k rh e h.2 (h2.append h4) .non⟩
          · cases h
        · obtain ⟨vs, h1, h2⟩ := rh.ob _ _ e
          cases p1 with
          | lst h3 _ _ h4 => exact mt_extend pins s σ H _ _ _ _ Q I rv ru ⟨_, _, _, _, rfl, rfl, h1, h3, by rw [← h2.length, ← h4.length]; exact h.1, wrL k rh e h.2 (h2.append h4) .non⟩
        · cases h
      · cases h
  · cases h
/-- isinstance(x, T) -/
theorem isi_ty (T : IC) {P : Addr → Prop} {H : Hp} {M : Mp} {x : D} {v : V} {b : Bool} (p : Rep (wd X an P) H M x v) (r : RelH (wd X an P) H M) (h : isiD T M x = some b) : ∃ t, TyX X.K H v (.type t) ∧ kitB t T.id = some b := by
  have frz : ∀ {a : Addr} {vs : List V}, Rd H a (.lst vs) → TyX X.K H (.ref a) (.type "list") := fun h => by
    rcases h with h | ⟨o, h⟩
    · exact .base (.lst h)
    · exact .base (.frz h)
  cases p with
  | non => cases h; exact ⟨_, .base .non, by cases T <;> decide +kernel⟩
  | bl c => cases h; exact ⟨_, .base (.bl c), by cases T <;> decide +kernel⟩
  | int c => cases h; exact ⟨_, .base (.int c), by cases T <;> decide +kernel⟩
  | str c => cases h; exact ⟨_, .base (.str c), by cases T <;> decide +kernel⟩
  | tup h1 h2 =>
    cases h
    refine ⟨"tuple", ?_, by cases T <;> decide +kernel⟩
    rcases h1 with (h1 | ⟨o, h1⟩) | ⟨o, its, n, e, c, _⟩
    · exact .base (.tup h1)
    · exact .fTuple h1
    · exact .kTuple e c
  | lst h1 h2 hp h3 => cases h; exact ⟨_, frz (.inl h1), by cases T <;> decide +kernel⟩
  | frl h1 h2 hp h3 => cases h; exact ⟨_, frz h1, by cases T <;> decide +kernel⟩
  | lstK h1 h3 =>
    cases h
    obtain ⟨o, its, n, e, c, _⟩ := h1
    exact ⟨_, .kList e c, by cases T <;> decide +kernel⟩
  | dic h1 h2 hp h3 =>
    cases h
    refine ⟨"dict", ?_, by cases T <;> decide +kernel⟩
    exact .fDict h1
  | ins h1 h2 hp h3 h4 => cases h
  | glo h1 h2 h3 => cases h
  | ref a =>
    have h' : (match M a with | some (.lst _) => some (decide (T = .list)) | some (.dic _) => some (decide (T = .dict)) | _ => none) = some b := h
    split at h'
    · rename_i e
      cases h'
      obtain ⟨vs, h1, _⟩ := r.ob _ _ e
      exact ⟨_, frz (.inl h1), by cases T <;> decide +kernel⟩
    · rename_i e
      cases h'
      obtain ⟨vs, h1, _⟩ := r.ob _ _ e
      exact ⟨_, .base (.dK h1), by cases T <;> decide +kernel⟩
    · cases h'
end
end DS

/-! DS4: when a text is one of the small language -/
namespace DS
open PySem PySem.Spec PyProof.Rows L2

/-- names by slot, the scope as it is read, the scope as it is written -/
structure CT where
  N : List Str
  sc : Scope
  ws : Scope
  fn : List Str
  mt : List (Str × Str)
  cst : List Str
  exc : List Str
  /-- classes that except clauses and isinstance name -/
  hn : List Str := []
  /-- within an except suite -/
  hot : Bool := false
  /-- the def's own block -/
  top : Bool := true
def visB (c : CT) (i : Nat) (x : Str) : Bool :=
  decide (c.N[i]? = some x) && (match c.sc.names.lookup x with
    | some .local => true
    | some .cell => true
    | some .free => true
    | _ => false) && !(x == ("__debug__" : Str)) && !(x == ("__classdict__" : Str))
def glB (c : CT) (x : Str) : Bool := decide (c.sc.names.lookup x = some .globalImplicit) && !(x == ("__debug__" : Str))
def wrB (c : CT) (i : Nat) (x : Str) : Bool :=
  decide (c.N[i]? = some x) && (match c.ws.names.lookup x with
    | some .local => true
    | some .cell => true
    | _ => false)
def isStar : Expr → Bool
  | .Starred _ _ => true
  | _ => false
def isSet : Expr → Bool
  | .Set _ _ _ => true
  | _ => false
def isSlice : Expr → Bool
  | .Slice _ _ _ _ => true
  | _ => false
def isCall0 : Expr → Bool
  | .Call (.Name _ _) [] [] _ => true
  | _ => false
def isTupE : Expr → Bool
  | .Tuple _ _ _ => true
  | _ => false
def noStars : List Expr → Bool
  | [] => true
  | e :: r => !isStar e && noStars r
def blkCT (c : CT) (scope : Scope) : CT := { c with sc := relS scope c.sc, ws := scope, top := false }
def BM.at : BM → Str
  | .append => "append" | .pop => "pop" | .extend => "extend"

/-- keys and values by turns -/
def zipKV : List (Option Expr) → List Expr → Option (List Expr)
  | [], [] => some []
  | some k :: ks, v :: vs => (zipKV ks vs).map fun r => k :: v :: r
  | _, _ => none
mutual
def namesT (vs : List Nat) : TG1 → Bool
  | .v i => decide (i ∈ vs)
  | .tup ts => namesTL vs ts
  | .sub _ _ => false
  | .att _ _ => false
def namesTL (vs : List Nat) : TGL → Bool
  | .nil => true
  | .cons t ts => namesT vs t && namesTL vs ts
end
mutual
def chkE : CT → E → Expr → Bool
  | c, .var i, e => match e with
    | .Name x _ => visB c i x
    | _ => false
  | c, .int i, e => match e with
    | .Constant (.int j) _ _ => decide (i = j)
    | _ => false
  | c, .bl i, e => match e with
    | .Constant (.bool j) _ _ => decide (i = j)
    | _ => false
  | c, .non, e => match e with
    | .Constant .none _ _ => true
    | _ => false
  | c, .str i, e => match e with
    | .Constant (.str j) _ _ => decide (i = j)
    | _ => false
  | c, .cst y, e => match e with
    | .Name x _ => glB c x && decide (nth c.cst y = some x)
    | _ => false
  | c, .bin m op a b, e => match e with
    | .BinOp a' op' b' _ => decide (op = op') && chkE c a a' && chkE c b b'
    | _ => false
  | c, .neg a, e => match e with
    | .UnaryOp .USub a' _ => chkE c a a'
    | _ => false
  | c, .cmp op a b, e => match e with
    | .Compare a' [op'] [b'] _ => decide (op = op') && chkE c a a' && chkE c b b' && !isSet b'
    | _ => false
  | c, .chain op op2 a b d, e => match e with
    | .Compare a' [op', op2'] [b', d'] _ => decide (op = op') && decide (op2 = op2') && chkE c a a' && chkE c b b' && chkE c d d' && !isSet b' && !isSet d'
    | _ => false
  | c, .and a b, e => match e with
    | .BoolOp .And [x, y] _ => chkE c a x && chkE c b y
    | .BoolOp .And (x :: y :: z :: r) p => chkE c a x && chkE c b (.BoolOp .And (y :: z :: r) p)
    | _ => false
  | c, .or a b, e => match e with
    | .BoolOp .Or [x, y] _ => chkE c a x && chkE c b y
    | .BoolOp .Or (x :: y :: z :: r) p => chkE c a x && chkE c b (.BoolOp .Or (y :: z :: r) p)
    | _ => false
  | c, .not a, e => match e with
    | .UnaryOp .Not a' _ => chkE c a a'
    | _ => false
  | c, .ife t a b, e => match e with
    | .IfExp t' a' b' _ => okT t && chkE c t t' && chkE c a a' && chkE c b b'
    | _ => false
  | c, .tup es, e => match e with
    | .Tuple es' _ _ => chkL c es es' && decide (es'.length ≤ 1000)
    | _ => false
  | c, .lst m es, e => match e with
    | .List es' _ => chkL c es es' && decide (es'.length ≤ 1000)
    | _ => false
  | c, .ix a i, e => match e with
    | .Subscript a' i' _ => chkE c a a' && chkE c i i' && !isSlice i'
    | _ => false
  | c, .sl m a lo hi, e => match e with
    | .Subscript a' (.Slice lo' hi' none _) _ => chkE c a a' && chkO c lo lo' && chkO c hi hi'
    | _ => false
  | c, .fld a f, e => match e with
    | .Attribute a' f' _ => chkE c a a' && decide (f = f') && !isCall0 a'
    | _ => false
  | c, .call f es, e => match e with
    | .Call (.Name x _) es' [] _ => glB c x && decide (nth c.fn f = some x) && chkL c es es' && !c.hot
    | _ => false
  | c, .meth i a es, e => match e with
    | .Call (.Attribute a' f' apos) es' [] cpos => chkE c a a' && decide ((nth c.mt i).map (·.2) = some f') && chkL c es es' && !isCall0 a' && (apos.endLine == cpos.line) && decide (es'.length < 20) && !c.hot
    | _ => false
  | c, .new z k es, e => match e with
    | .Call (.Name x _) es' [] _ => glB c x && decide (nth c.mt k = some (x, ("__init__" : Str))) && chkL c es es' && !c.hot
    | _ => false
  | c, .blt m f es, e => match e with
    | .Call (.Name x _) (e1 :: es') [] _ => glB c x && decide (x = f.id) && chkL c es (e1 :: es') && !c.hot
    | _ => false
  | c, .bty m f es, e => match e with
    | .Call (.Name x _) (e1 :: es') [] _ => glB c x && decide (x = f.id) && chkL c es (e1 :: es')
    | _ => false
  | c, .bm f o es, e => match e with
    | .Call (.Attribute o' x apos) es' [] cpos => chkE c o o' && decide (x = f.at) && chkL c es es' && !isCall0 o' && (apos.endLine == cpos.line) && decide (es'.length < 20)
    | _ => false
  | c, .isi a T, e => match e with
    | .Call (.Name x _) [a', .Name y _] [] _ => glB c x && decide (x = "isinstance") && chkE c a a' && !isStar a' && glB c y && decide (y = T.id)
    | _ => false
  | c, .exf i f, e => match e with
    | .Attribute (.Name x _) f' _ => visB c i x && decide (f = f') && c.hot
    | _ => false
  | c, .exi i k, e => match e with
    | .Call (.Name x _) [.Name y _, .Name z _] [] _ => glB c x && decide (x = "isinstance") && visB c i y && glB c z && decide (z = k) && c.hot && decide (k ∈ c.hn)
    | _ => false
  | c, .lc m own elt tg it cond, e => match e with
    | .ListComp elt' [⟨tg', it', ifs, 0⟩] scope _ => blkC c.N c.sc scope own && namesT (own.map (·.2)) tg && chkT (blkCT c scope) tg tg' && chkI c it tg' it' && chkC (blkCT c scope) cond ifs && chkE (blkCT c scope) elt elt' && !isSet it' && !c.hot
    | _ => false
  | c, .lcx m own elt tg it cond, e => match e with
    | .ListComp elt' [⟨tg', it', ifs, 0⟩] scope _ => blkC c.N c.sc scope own && namesT (own.map (·.2)) tg && chkT (blkCT c scope) tg tg' && chkI c it tg' it' && chkC (blkCT c scope) cond ifs && chkE (blkCT c scope) elt elt' && !isSet it' && !c.hot && c.top
    | _ => false
  | c, .bad, e => true
  | c, .dct0 m, e => match e with
    | .Dict [] [] _ => true
    | _ => false
  | c, .dct m es, e => match e with
    | .Dict ks vs _ => (match zipKV ks vs with | some r => chkL c es r | none => false) && !ks.isEmpty && decide (ks.length ≤ 15) && !c.hot
    | _ => false
  | c, .dget1 a k, e => match e with
    | .Call (.Attribute a' f apos) [k'] [] cpos => chkE c a a' && decide (f = "get") && chkE c k k' && !isStar k' && !isCall0 a' && (apos.endLine == cpos.line)
    | _ => false
  | c, .dget2 a k x, e => match e with
    | .Call (.Attribute a' f apos) [k', x'] [] cpos => chkE c a a' && decide (f = "get") && chkE c k k' && !isStar k' && chkE c x x' && !isStar x' && !isCall0 a' && (apos.endLine == cpos.line)
    | _ => false
  | c, .rev m a, e => match e with
    | .Subscript a' (.Slice none none (some (.UnaryOp .USub (.Constant (.int 1) _ _) _)) _) _ => chkE c a a'
    | _ => false
  | c, .dc m own kx vx tg it cond, e => match e with
    | .DictComp k' v' [⟨tg', it', ifs, 0⟩] scope _ => blkC c.N c.sc scope own && namesT (own.map (·.2)) tg && chkT (blkCT c scope) tg tg' && chkI c it tg' it' && chkC (blkCT c scope) cond ifs && chkE (blkCT c scope) kx k' && chkE (blkCT c scope) vx v' && !isSet it' && !c.hot
    | _ => false
  | c, .lc2 m own vs1 elt tg it cond tg1 it1 cond1, e => match e with
    | .ListComp elt' [⟨tg', it', ifs, 0⟩, ⟨tg1', it1', ifs1, 0⟩] scope _ => blkC c.N c.sc scope own && namesT (own.map (·.2)) tg && chkT (blkCT c scope) tg tg' && chkI c it tg' it' && chkC (blkCT c scope) cond ifs && vs1.all (fun i => decide (i ∈ own.map (·.2))) && namesT vs1 tg1 && chkT (blkCT c scope) tg1 tg1' && chkI (blkCT c scope) it1 tg1' it1' && chkC (blkCT c scope) cond1 ifs1 && chkE (blkCT c scope) elt elt' && !isSet it' && !isSet it1' && !c.hot
    | _ => false
def chkL : CT → EL → List Expr → Bool
  | c, .nil, es => match es with
    | [] => true
    | _ => false
  | c, .cons e es, fs => match fs with
    | e' :: es' => chkE c e e' && !isStar e' && chkL c es es'
    | _ => false
def chkO : CT → EO → Option Expr → Bool
  | c, .none, e => match e with
    | none => true
    | _ => false
  | c, .some e, f => match f with
    | some e' => chkE c e e'
    | _ => false
def chkC : CT → EO → List Expr → Bool
  | c, .none, e => match e with
    | [] => true
    | _ => false
  | c, .some e, f => match f with
    | [e'] => okT e && chkE c e e'
    | _ => false
def chkI : CT → IT → Expr → Expr → Bool
  | c, .seq e, tg, e' => chkE c e e'
  | c, .items a, tg, e => match e with
    | .Call (.Attribute a' f apos) [] [] cpos => chkE c a a' && decide (f = "items") && !isCall0 a' && (apos.endLine == cpos.line) && isTupE tg
    | _ => false
  | c, .keys a, tg, e => chkE c a e
  | c, .chars a, tg, e => chkE c a e
  | c, .rng1 a, tg, e => match e with
    | .Call (.Name x _) [a'] [] _ => glB c x && decide (x = "range") && chkE c a a' && !isStar a'
    | _ => false
  | c, .rng2 a b, tg, e => match e with
    | .Call (.Name x _) [a', b'] [] _ => glB c x && decide (x = "range") && chkE c a a' && !isStar a' && chkE c b b' && !isStar b'
    | _ => false
  | c, .rng3 a b d, tg, e => match e with
    | .Call (.Name x _) [a', b', d'] [] _ => glB c x && decide (x = "range") && chkE c a a' && !isStar a' && chkE c b b' && !isStar b' && chkE c d d' && !isStar d'
    | _ => false
  | c, .zip a b, tg, e => match e with
    | .Call (.Name x _) [a', b'] [] _ => glB c x && decide (x = "zip") && chkE c a a' && !isStar a' && chkE c b b' && !isStar b' && isTupE tg
    | _ => false
  | c, .enum a, tg, e => match e with
    | .Call (.Name x _) [a'] [] _ => glB c x && decide (x = "enumerate") && chkE c a a' && !isStar a' && isTupE tg
    | _ => false
def chkT : CT → TG1 → Expr → Bool
  | c, .v i, e => match e with
    | .Name x _ => wrB c i x
    | _ => false
  | c, .tup ts, e => match e with
    | .Tuple es _ _ => chkTL c ts es && !c.hot
    | _ => false
  | c, .sub a i, e => match e with
    | .Subscript a' i' _ => chkE c a a' && chkE c i i' && !isSlice i'
    | _ => false
  | c, .att a f, e => match e with
    | .Attribute a' f' _ => chkE c a a' && decide (f = f')
    | _ => false
def chkTL : CT → TGL → List Expr → Bool
  | c, .nil, es => match es with
    | [] => true
    | _ => false
  | c, .cons t ts, es => match es with
    | e :: r => chkT c t e && !isStar e && chkTL c ts r
    | _ => false
def okT : E → Bool
  | .ife _ _ _ => false
  | .and a b => okT a && okT b
  | .or a b => okT a && okT b
  | .not a => okT a
  | _ => true
end
def isComp : Expr → Bool
  | .ListComp _ _ _ _ => true
  | .SetComp _ _ _ _ => true
  | .DictComp _ _ _ _ _ => true
  | _ => false
def isSeqT : Expr → Bool
  | .Tuple _ _ _ => true
  | .List _ _ => true
  | _ => false
def isNameE : Expr → Bool
  | .Name _ _ => true
  | _ => false
/-- the store is not made within the comprehension's own frame -/
def nsw (c : CT) (t v : Expr) : Bool := match t, v with
  | .Name x p, .ListComp _ _ scope pos => !(decide (c.sc.names.lookup x = some .local) && (p.line == pos.line) && !(scope.names.any fun (n, k) => n == x && (k == .local || k == .cell)))
  | _, _ => false
mutual
def chkS : CT → S → Stmt → Bool
  | c, .asg tg e, s => match s with
    | .Assign [t] v _ => chkT c tg t && chkE c e v && !isStar t && !(isSeqT t && isTupE v) && (!(isNameE t && isComp v) || nsw c t v)
    | _ => false
  | c, .asgc i e, s => match s with
    | .Assign [.Name y py] v _ => match e, v with
      | .lc m own elt tg it cond, .ListComp elt' [⟨tg', it', ifs, 0⟩] scope pos => decide (c.N[i]? = some y) && decide (c.sc.kind = .function) && decide (c.sc.names.lookup y = some .local) && (py.line == pos.line) && !(scope.names.any fun (n, k) => n == y && (k == .local || k == .cell)) &&
          blkC c.N c.sc scope own && namesT (own.map (·.2)) tg && chkT (blkCT c scope) tg tg' && chkI c it tg' it' && chkC (blkCT c scope) cond ifs && chkE (blkCT c scope) elt elt' && !isSet it' && !c.hot
      | .lcx m own elt tg it cond, .ListComp elt' [⟨tg', it', ifs, 0⟩] scope pos => decide (c.N[i]? = some y) && decide (c.sc.kind = .function) && decide (c.sc.names.lookup y = some .local) && (py.line == pos.line) && !(scope.names.any fun (n, k) => n == y && (k == .local || k == .cell)) &&
          blkC c.N c.sc scope own && namesT (own.map (·.2)) tg && chkT (blkCT c scope) tg tg' && chkI c it tg' it' && chkC (blkCT c scope) cond ifs && chkE (blkCT c scope) elt elt' && !isSet it' && !c.hot && c.top
      | .lc2 m own vs1 elt tg it cond tg1 it1 cond1, .ListComp elt' [⟨tg', it', ifs, 0⟩, ⟨tg1', it1', ifs1, 0⟩] scope pos => decide (c.N[i]? = some y) && decide (c.sc.kind = .function) && decide (c.sc.names.lookup y = some .local) && (py.line == pos.line) && !(scope.names.any fun (n, k) => n == y && (k == .local || k == .cell)) &&
          blkC c.N c.sc scope own && namesT (own.map (·.2)) tg && chkT (blkCT c scope) tg tg' && chkI c it tg' it' && chkC (blkCT c scope) cond ifs && vs1.all (fun i => decide (i ∈ own.map (·.2))) && namesT vs1 tg1 && chkT (blkCT c scope) tg1 tg1' && chkI (blkCT c scope) it1 tg1' it1' && chkC (blkCT c scope) cond1 ifs1 && chkE (blkCT c scope) elt elt' && !isSet it' && !isSet it1' && !c.hot
      | .dc true own kx vx tg it cond, .DictComp k' v' [⟨tg', it', ifs, 0⟩] scope pos => decide (c.N[i]? = some y) && decide (c.sc.kind = .function) && decide (c.sc.names.lookup y = some .local) && (py.line == pos.line) && !(scope.names.any fun (n, k) => n == y && (k == .local || k == .cell)) &&
          blkC c.N c.sc scope own && namesT (own.map (·.2)) tg && chkT (blkCT c scope) tg tg' && chkI c it tg' it' && chkC (blkCT c scope) cond ifs && chkE (blkCT c scope) kx k' && chkE (blkCT c scope) vx v' && !isSet it' && !c.hot
      | _, _ => false
    | _ => false
  | c, .par i j a b, s => match s with
    | .Assign [.Tuple [.Name x px, .Name y py] _ _] (.Tuple [a', b'] _ _) _ => wrB c i x && wrB c j y && decide (i ≠ j) && decide (c.sc.names.lookup x = some .local) && decide (c.sc.names.lookup y = some .local) && chkE c a a' && chkE c b b' && !isStar a' && !isStar b' && false
    | _ => false
  | c, .aug i op e, s => match s with
    | .AugAssign (.Name x _) op' v _ => wrB c i x && decide (op = op') && chkE c e v
    | _ => false
  | c, .ex e, s => match s with
    | .Expr v _ => chkE c e v && !isComp v
    | _ => false
  | c, .ret e, s => match s with
    | .Return (some v) _ => chkE c e v
    | _ => false
  | c, .retN, s => match s with
    | .Return none _ => true
    | _ => false
  | c, .ifs t a b, s => match s with
    | .If t' a' b' _ => okT t && chkE c t t' && chkSs c a a' && chkSs c b b'
    | _ => false
  | c, .for tg it b, s => match s with
    | .For t i b' [] _ => chkT c tg t && chkI c it t i && chkSs c b b' && !isSet i && !c.hot
    | _ => false
  | c, .while t b, s => match s with
    | .While t' b' [] _ => okT t && chkE c t t' && chkSs c b b' && !c.hot
    | _ => false
  | c, .pass, s => match s with
    | .Pass _ => true
    | _ => false
  | c, .brk, s => match s with
    | .Break _ => true
    | _ => false
  | c, .cont, s => match s with
    | .Continue _ => true
    | _ => false
  | c, .raise k es, s => match s with
    | .Raise (some (.Call (.Name x _) es' [] _)) none _ => glB c x && decide (nth c.exc k = some x) && chkL c es es' && !c.hot
    | _ => false
  | c, .fz i, s => false
  | c, .bad, s => true
  | c, .augs a i op e, s => match s with
    | .AugAssign (.Subscript a' i' _) op' v _ => chkE c a a' && chkE c i i' && decide (op = op') && chkE c e v && !isSlice i'
    | _ => false
  | c, .try b hs, s => match s with
    | .Try b' hs' [] [] _ => chkSs c b b' && chkH c hs hs' && !c.hot && c.top && !hs'.isEmpty
    | _ => false
def chkH : CT → HL → List ExceptHandler → Bool
  | c, .nil, hs => match hs with
    | [] => true
    | _ => false
  | c, .cons k nm b r, hs => match hs with
    | .ExceptHandler (some (.Name x _)) n (b0 :: su) _ :: r' => glB c x && decide (x = k) && decide (k ∈ c.hn) && (match nm, n with
      | none, none => true
      | some i, some y => decide (c.N[i]? = some y) && decide (c.sc.names.lookup y = some .local)
      | _, _ => false) && chkSs { c with hot := true } b (b0 :: su) && chkH c r r'
    | _ => false
def chkSs : CT → SL → List Stmt → Bool
  | c, .nil, ss => match ss with
    | [] => true
    | _ => false
  | c, .cons (.fz i) r, ss => chkSs c r ss
  | c, .cons s r, ss => match ss with
    | s' :: r' => chkS c s s' && chkSs c r r'
    | _ => false
end
end DS

/-! DS5: loops -/
namespace DS
open PySem PySem.Spec PyProof.Rows L2

/-- later, with more places that are somebody's -/
structure ExtP (P : Addr → Prop) (H : Hp) (M : Mp) (P' : Addr → Prop) (H' : Hp) (M' : Mp) : Prop where
  ext : Ext H M H' M'
  up : ∀ a, P a → P' a
  nw : ∀ a, P' a → ¬ P a → H a = none
/-- .. what is somebody's may have changed -/
structure ExtW (P : Addr → Prop) (H : Hp) (M : Mp) (P' : Addr → Prop) (H' : Hp) (M' : Mp) : Prop where
  tup : ∀ a xs, Rd H a (.tup xs) → Rd H' a (.tup xs)
  keep : ∀ a u, ¬ P a → M a = none → H a = some u → H' a = some u ∧ M' a = none
  nw : ∀ a, P' a → ¬ P a → H a = none
theorem ExtP.w {P P' : Addr → Prop} {H H' : Hp} {M M' : Mp} (e : ExtP P H M P' H' M') : ExtW P H M P' H' M' := ⟨e.ext.tup, fun a u _ => e.ext.keep a u, e.nw⟩
theorem ExtW.of {P : Addr → Prop} {H H' : Hp} {M M' : Mp} (e : Ext H M H' M') : ExtW P H M P H' M' := ⟨e.tup, fun a u _ => e.keep a u, fun _ h n => (n h).elim⟩
theorem ExtP.refl {P : Addr → Prop} {H : Hp} {M : Mp} : ExtP P H M P H M := ⟨.refl, fun _ h => h, fun _ h n => (n h).elim⟩
theorem ExtP.of {P : Addr → Prop} {H H' : Hp} {M M' : Mp} (e : Ext H M H' M') : ExtP P H M P H' M' := ⟨e, fun _ h => h, fun _ h n => (n h).elim⟩
theorem Ext.back {H H' : Hp} {M M' : Mp} (e : Ext H M H' M') {a : Addr} (m : M a = none) (h : H' a = none) : H a = none := by
  cases q : H a with
  | none => rfl
  | some u => rw [(e.keep a u m q).1] at h; cases h
section
variable {K : PySem.W.Frag} {mg : Str → Option Value} {an an' : An} {P P' : Addr → Prop} {H H' : Hp} {M M' : Mp}
theorem ExtW.np (e : ExtW P H M P' H' M') {a : Addr} {u : HO} (n : ¬ P a) (h : Rd H a u) : ¬ P' a := fun q => by
  obtain ⟨o, z⟩ := rdSome h
  rw [e.nw a q n] at z; cases z
theorem ExtW.rd (e : ExtW P H M P' H' M') {a : Addr} {u : HO} (p : ¬ P a) (m : M a = none) (h : Rd H a u) : Rd H' a u ∧ M' a = none := by
  rcases h with h | ⟨o, h⟩
  · exact ⟨.inl (e.keep _ _ p m h).1, (e.keep _ _ p m h).2⟩
  · exact ⟨.inr ⟨o, (e.keep _ _ p m h).1⟩, (e.keep _ _ p m h).2⟩
theorem sqtW {K : PySem.W.Frag} {a : Addr} {xs : List V} (e : ExtW P H M P' H' M') (h : SqT K H a xs) : SqT K H' a xs := by
  rcases h with h | h
  · exact .inl (e.tup a xs h)
  · exact .inr h
mutual
theorem Rep.extW (e : ExtW P H M P' H' M') : ∀ {d : D} {v : V}, Rep ⟨K, mg, P, an⟩ H M d v → Rep ⟨K, mg, P', an'⟩ H' M' d v
  | _, _, .non => .non
  | _, _, .bl b => .bl b
  | _, _, .int i => .int i
  | _, _, .str x => .str x
  | _, _, .tup h r => .tup (sqtW e h) (Reps.extW e r)
  | _, _, .lst h m p r => .lst (e.keep _ _ p m h).1 (e.keep _ _ p m h).2 (e.np p (.inl h)) (Reps.extW e r)
  | _, _, .frl h m p r => .frl (e.rd p m h).1 (e.rd p m h).2 (e.np p h) (Reps.extW e r)
  | _, _, .lstK h r => .lstK h (Reps.extW e r)
  | _, _, .dic h m p r => .dic (e.keep _ _ p m h).1 (e.keep _ _ p m h).2 (e.np p (.inr ⟨_, h⟩)) (RepK.extW e r)
  | _, _, .ins h m p g r => .ins (e.keep _ _ p m h).1 (e.keep _ _ p m h).2 (e.np p (.inl h)) g (RepF.extW e r)
  | _, _, .ref a => .ref a
  | _, _, .glo g r n => .glo g r n
theorem Reps.extW (e : ExtW P H M P' H' M') : ∀ {ds : List D} {vs : List V}, Reps ⟨K, mg, P, an⟩ H M ds vs → Reps ⟨K, mg, P', an'⟩ H' M' ds vs
  | _, _, .nil => .nil
  | _, _, .cons h r => .cons (Rep.extW e h) (Reps.extW e r)
theorem RepK.extW (e : ExtW P H M P' H' M') : ∀ {ds : List (Key × D)} {vs : List (Key × V)}, RepK ⟨K, mg, P, an⟩ H M ds vs → RepK ⟨K, mg, P', an'⟩ H' M' ds vs
  | _, _, .nil => .nil
  | _, _, .cons h r => .cons (Rep.extW e h) (RepK.extW e r)
theorem RepF.extW (e : ExtW P H M P' H' M') : ∀ {ds : List (Str × D)} {vs : List (Str × V)}, RepF ⟨K, mg, P, an⟩ H M ds vs → RepF ⟨K, mg, P', an'⟩ H' M' ds vs
  | _, _, .nil => .nil
  | _, _, .cons h r => .cons (Rep.extW e h) (RepF.extW e r)
end
theorem Rep.extP (e : ExtP P H M P' H' M') {d : D} {v : V} (h : Rep ⟨K, mg, P, an⟩ H M d v) : Rep ⟨K, mg, P', an'⟩ H' M' d v := h.extW e.w
theorem Reps.extP (e : ExtP P H M P' H' M') {d : List D} {v : List V} (h : Reps ⟨K, mg, P, an⟩ H M d v) : Reps ⟨K, mg, P', an'⟩ H' M' d v := h.extW e.w
theorem RepK.extP (e : ExtP P H M P' H' M') {d : List (Key × D)} {v : List (Key × V)} (h : RepK ⟨K, mg, P, an⟩ H M d v) : RepK ⟨K, mg, P', an'⟩ H' M' d v := h.extW e.w
theorem RepF.extP (e : ExtP P H M P' H' M') {d : List (Str × D)} {v : List (Str × V)} (h : RepF ⟨K, mg, P, an⟩ H M d v) : RepF ⟨K, mg, P', an'⟩ H' M' d v := h.extW e.w
theorem RepE.extW {ρ : Env1} {σ : L2.St} (e : ExtW P H M P' H' M') (r : RepE ⟨K, mg, P, an⟩ H M ρ σ) : RepE ⟨K, mg, P', an'⟩ H' M' ρ σ :=
  ⟨r.1, fun i d h => let ⟨v, h1, h2⟩ := r.2 i d h; ⟨v, h1, h2.extW e⟩⟩
theorem RepE.extP {ρ : Env1} {σ : L2.St} (e : ExtP P H M P' H' M') (r : RepE ⟨K, mg, P, an⟩ H M ρ σ) : RepE ⟨K, mg, P', an'⟩ H' M' ρ σ :=
  ⟨r.1, fun i d h => let ⟨v, h1, h2⟩ := r.2 i d h; ⟨v, h1, h2.extP e⟩⟩

mutual
theorem Rep.show' (e : ∀ a, P a → P' a) : ∀ {d : D} {v : V}, Rep ⟨K, mg, P', an'⟩ H M d v → Rep ⟨K, mg, P, an⟩ H M d v
  | _, _, .non => .non
  | _, _, .bl b => .bl b
  | _, _, .int i => .int i
  | _, _, .str x => .str x
  | _, _, .tup h r => .tup h (Reps.show' e r)
  | _, _, .lst h m p r => .lst h m (fun q => p (e _ q)) (Reps.show' e r)
  | _, _, .frl h m p r => .frl h m (fun q => p (e _ q)) (Reps.show' e r)
  | _, _, .lstK h r => .lstK h (Reps.show' e r)
  | _, _, .dic h m p r => .dic h m (fun q => p (e _ q)) (RepK.show' e r)
  | _, _, .ins h m p g r => .ins h m (fun q => p (e _ q)) g (RepF.show' e r)
  | _, _, .ref a => .ref a
  | _, _, .glo g r n => .glo g r n
theorem Reps.show' (e : ∀ a, P a → P' a) : ∀ {ds : List D} {vs : List V}, Reps ⟨K, mg, P', an'⟩ H M ds vs → Reps ⟨K, mg, P, an⟩ H M ds vs
  | _, _, .nil => .nil
  | _, _, .cons h r => .cons (Rep.show' e h) (Reps.show' e r)
theorem RepK.show' (e : ∀ a, P a → P' a) : ∀ {ds : List (Key × D)} {vs : List (Key × V)}, RepK ⟨K, mg, P', an'⟩ H M ds vs → RepK ⟨K, mg, P, an⟩ H M ds vs
  | _, _, .nil => .nil
  | _, _, .cons h r => .cons (Rep.show' e h) (RepK.show' e r)
theorem RepF.show' (e : ∀ a, P a → P' a) : ∀ {ds : List (Str × D)} {vs : List (Str × V)}, RepF ⟨K, mg, P', an'⟩ H M ds vs → RepF ⟨K, mg, P, an⟩ H M ds vs
  | _, _, .nil => .nil
  | _, _, .cons h r => .cons (Rep.show' e h) (RepF.show' e r)
end
theorem RepO.show' {a : Addr} {o : MO} (e : ∀ a, P a → P' a) (q : RepO ⟨K, mg, P', an'⟩ H M a o) : RepO ⟨K, mg, P, an⟩ H M a o := by
  cases o with
  | lst ds => obtain ⟨vs, h, r⟩ := q; exact ⟨vs, h, r.show' e⟩
  | dic ds => obtain ⟨vs, h, r⟩ := q; exact ⟨vs, h, r.show' e⟩
  | ins c ds => obtain ⟨C, dx, vs, h, g, r⟩ := q; exact ⟨C, dx, vs, h, g, r.show' e⟩
theorem RelH.show' (e : ∀ a, P a → P' a) (z : an.ph P H M) (r : RelH ⟨K, mg, P', an'⟩ H M) : RelH ⟨K, mg, P, an⟩ H M := ⟨fun a o h => (r.ob a o h).show' e, fun a p => r.pv a (e a p), z⟩
theorem RepO.extP {a : Addr} {o : MO} (e : ExtP P H M P' H' M') (k : H' a = H a) (q : RepO ⟨K, mg, P, an⟩ H M a o) : RepO ⟨K, mg, P', an'⟩ H' M' a o := by
  cases o with
  | lst ds => obtain ⟨vs, h, r⟩ := q; exact ⟨vs, k.trans h, r.extP e⟩
  | dic ds => obtain ⟨vs, h, r⟩ := q; exact ⟨vs, k.trans h, r.extP e⟩
  | ins c ds => obtain ⟨C, dx, vs, h, g, r⟩ := q; exact ⟨C, dx, vs, k.trans h, g, r.extP e⟩
/-- the place D0, that is somebody's from now on -/
abbrev hid (P : Addr → Prop) (D0 : Addr) : Addr → Prop := fun a => P a ∨ a = D0
theorem ExtP.hide {D0 : Addr} {o : HO} (h : H D0 = none) : ExtP P H M (hid P D0) (upd H D0 o) M :=
  ⟨Ext.newF h, fun _ p => .inl p, fun a p n => by
    rcases p with p | p
    · exact (n p).elim
    · rw [p]; exact h⟩
theorem RelH.hide {D0 : Addr} {o : HO} (r : RelH ⟨K, mg, P, an⟩ H M) (h : H D0 = none) : RelH ⟨K, mg, hid P D0, .top⟩ (upd H D0 o) M := by
  refine ⟨fun a u e => ?_, fun a p => ?_, trivial⟩
  · have na : a ≠ D0 := by rintro rfl; rw [r.free h] at e; cases e
    exact (r.ob a u e).extP (ExtP.hide h) (upd_ne na)
  · by_cases hb : a = D0
    · subst hb; exact ⟨r.free h, _, upd_same⟩
    · rcases p with p | p
      · rw [upd_ne hb]; exact r.pv a p
      · exact (hb p).elim
/-- what is written at a place that is somebody's is not seen -/
theorem sqt_hid {a D0 : Addr} {xs : List V} {o : HO} (h : SqT K H a xs) (nt : ∀ xs, ¬ Rd H D0 (.tup xs)) : SqT K (upd H D0 o) a xs := by
  rcases h with h | h
  · exact .inl (rdNe h fun e => by subst e; exact nt xs h)
  · exact .inr h
mutual
theorem Rep.priv {D0 : Addr} {o : HO} (p0 : P D0) (nt : ∀ xs, ¬ Rd H D0 (.tup xs)) : ∀ {d : D} {v : V}, Rep ⟨K, mg, P, an⟩ H M d v → Rep ⟨K, mg, P, an⟩ (upd H D0 o) M d v
  | _, _, .non => .non
  | _, _, .bl b => .bl b
  | _, _, .int i => .int i
  | _, _, .str x => .str x
  | _, _, .tup h r => .tup (sqt_hid h nt) (Reps.priv p0 nt r)
  | _, _, .lst h m p r => .lst ((L2.upd_ne fun e => by subst e; exact p p0).trans h) m p (Reps.priv p0 nt r)
  | _, _, .frl h m p r => .frl (rdNe h fun e => by subst e; exact p p0) m p (Reps.priv p0 nt r)
  | _, _, .lstK h r => .lstK h (Reps.priv p0 nt r)
  | _, _, .dic h m p r => .dic ((L2.upd_ne fun e => by subst e; exact p p0).trans h) m p (RepK.priv p0 nt r)
  | _, _, .ins h m p g r => .ins ((upd_ne fun e => by subst e; exact p p0).trans h) m p g (RepF.priv p0 nt r)
  | _, _, .ref a => .ref a
  | _, _, .glo g r n => .glo g r n
theorem Reps.priv {D0 : Addr} {o : HO} (p0 : P D0) (nt : ∀ xs, ¬ Rd H D0 (.tup xs)) : ∀ {ds : List D} {vs : List V}, Reps ⟨K, mg, P, an⟩ H M ds vs → Reps ⟨K, mg, P, an⟩ (upd H D0 o) M ds vs
  | _, _, .nil => .nil
  | _, _, .cons h r => .cons (Rep.priv p0 nt h) (Reps.priv p0 nt r)
theorem RepK.priv {D0 : Addr} {o : HO} (p0 : P D0) (nt : ∀ xs, ¬ Rd H D0 (.tup xs)) : ∀ {ds : List (Key × D)} {vs : List (Key × V)}, RepK ⟨K, mg, P, an⟩ H M ds vs → RepK ⟨K, mg, P, an⟩ (upd H D0 o) M ds vs
  | _, _, .nil => .nil
  | _, _, .cons h r => .cons (Rep.priv p0 nt h) (RepK.priv p0 nt r)
theorem RepF.priv {D0 : Addr} {o : HO} (p0 : P D0) (nt : ∀ xs, ¬ Rd H D0 (.tup xs)) : ∀ {ds : List (Str × D)} {vs : List (Str × V)}, RepF ⟨K, mg, P, an⟩ H M ds vs → RepF ⟨K, mg, P, an⟩ (upd H D0 o) M ds vs
  | _, _, .nil => .nil
  | _, _, .cons h r => .cons (Rep.priv p0 nt h) (RepF.priv p0 nt r)
end
theorem RelH.priv {D0 : Addr} {o : HO} (r : RelH ⟨K, mg, P, .top⟩ H M) (p0 : P D0) (nt : ∀ xs, ¬ Rd H D0 (.tup xs)) : RelH ⟨K, mg, P, .top⟩ (upd H D0 o) M := by
  refine ⟨fun a u e => ?_, fun a p => ?_, trivial⟩
  · have na : a ≠ D0 := by rintro rfl; rw [(r.pv _ p0).1] at e; cases e
    have q := r.ob a u e
    cases u with
    | lst ds => obtain ⟨vs, h, q⟩ := q; exact ⟨vs, (upd_ne na).trans h, q.priv p0 nt⟩
    | dic ds => obtain ⟨vs, h, q⟩ := q; exact ⟨vs, (upd_ne na).trans h, q.priv p0 nt⟩
    | ins c ds => obtain ⟨C, dx, vs, h, g, q⟩ := q; exact ⟨C, dx, vs, (upd_ne na).trans h, g, q.priv p0 nt⟩
  · by_cases hb : a = D0
    · subst hb; exact ⟨(r.pv _ p).1, _, upd_same⟩
    · rw [upd_ne hb]; exact r.pv a p
theorem ExtP.priv {D0 : Addr} {o : HO} (e : ExtP P H M P' H' M') (h : H D0 = none) : ExtP P H M P' (upd H' D0 o) M' := by
  refine ⟨⟨fun a xs q => rdNe (e.ext.tup a xs q) fun z => ?_, fun a u m q => ?_⟩, e.up, e.nw⟩
  · subst z; obtain ⟨_, z⟩ := rdSome q; rw [h] at z; cases z
  · have na : a ≠ D0 := by rintro rfl; rw [h] at q; cases q
    rw [upd_ne na]; exact e.ext.keep a u m q

mutual
theorem Rep.own {D0 : Addr} {o : MO} : ∀ {d : D} {v : V}, Rep ⟨K, mg, hid P D0, an'⟩ H M d v → Rep ⟨K, mg, P, an⟩ H (mset M D0 o) d v
  | _, _, .non => .non
  | _, _, .bl b => .bl b
  | _, _, .int i => .int i
  | _, _, .str x => .str x
  | _, _, .tup h r => .tup h (Reps.own r)
  | _, _, .lst h m p r => .lst h ((mset_ne fun e => p (.inr e)).trans m) (fun q => p (.inl q)) (Reps.own r)
  | _, _, .frl h m p r => .frl h ((mset_ne fun e => p (.inr e)).trans m) (fun q => p (.inl q)) (Reps.own r)
  | _, _, .lstK h r => .lstK h (Reps.own r)
  | _, _, .dic h m p r => .dic h ((mset_ne fun e => p (.inr e)).trans m) (fun q => p (.inl q)) (RepK.own r)
  | _, _, .ins h m p g r => .ins h ((mset_ne fun e => p (.inr e)).trans m) (fun q => p (.inl q)) g (RepF.own r)
  | _, _, .ref a => .ref a
  | _, _, .glo g r n => .glo g r n
theorem Reps.own {D0 : Addr} {o : MO} : ∀ {ds : List D} {vs : List V}, Reps ⟨K, mg, hid P D0, an'⟩ H M ds vs → Reps ⟨K, mg, P, an⟩ H (mset M D0 o) ds vs
  | _, _, .nil => .nil
  | _, _, .cons h r => .cons (Rep.own h) (Reps.own r)
theorem RepK.own {D0 : Addr} {o : MO} : ∀ {ds : List (Key × D)} {vs : List (Key × V)}, RepK ⟨K, mg, hid P D0, an'⟩ H M ds vs → RepK ⟨K, mg, P, an⟩ H (mset M D0 o) ds vs
  | _, _, .nil => .nil
  | _, _, .cons h r => .cons (Rep.own h) (RepK.own r)
theorem RepF.own {D0 : Addr} {o : MO} : ∀ {ds : List (Str × D)} {vs : List (Str × V)}, RepF ⟨K, mg, hid P D0, an'⟩ H M ds vs → RepF ⟨K, mg, P, an⟩ H (mset M D0 o) ds vs
  | _, _, .nil => .nil
  | _, _, .cons h r => .cons (Rep.own h) (RepF.own r)
end
theorem RelH.own {D0 : Addr} {o : MO} (r : RelH ⟨K, mg, hid P D0, an'⟩ H M) (np : ¬ P D0) (z : an.ph P H (mset M D0 o)) (q : RepO ⟨K, mg, P, an⟩ H (mset M D0 o) D0 o) : RelH ⟨K, mg, P, an⟩ H (mset M D0 o) := by
  refine ⟨fun a u e => ?_, fun a p => ?_, z⟩
  · by_cases hb : a = D0
    · subst hb; rw [mset_same] at e; cases e; exact q
    · rw [mset_ne hb] at e
      have z := r.ob a u e
      cases u with
      | lst ds => obtain ⟨vs, h, z⟩ := z; exact ⟨vs, h, z.own⟩
      | dic ds => obtain ⟨vs, h, z⟩ := z; exact ⟨vs, h, z.own⟩
      | ins c ds => obtain ⟨C, dx, vs, h, g, z⟩ := z; exact ⟨C, dx, vs, h, g, z.own⟩
  · have na : a ≠ D0 := by rintro rfl; exact np p
    rw [mset_ne na]; exact r.pv a (.inl p)
theorem Ext.take {D0 : Addr} {o : MO} (e : Ext H M H' M') (h : H D0 = none) : Ext H M H' (mset M' D0 o) :=
  ⟨e.tup, fun a u m q => by
    have na : a ≠ D0 := by rintro rfl; rw [h] at q; cases q
    rw [mset_ne na]; exact e.keep a u m q⟩
end
theorem ExtP.trans {P P1 P2 : Addr → Prop} {H H1 H2 : Hp} {M M1 M2 : Mp} (a : ExtP P H M P1 H1 M1) (b : ExtP P1 H1 M1 P2 H2 M2) (mm : ∀ c, H c ≠ none → M c ≠ none → H1 c ≠ none) : ExtP P H M P2 H2 M2 := by
  refine ⟨a.ext.trans b.ext, fun c h => b.up c (a.up c h), fun c h n => ?_⟩
  by_cases q : P1 c
  · exact a.nw c q n
  · have z := b.nw c h q
    by_cases m : M c = none
    · exact a.ext.back m z
    · by_cases hh : H c = none
      · exact hh
      · exact (mm c hh m z).elim

/-- the iterator J walks the items xs while g holds -/
structure ItRep (X : Cx) (P0 : Addr → Prop) (H0 : Hp) (M0 : Mp) (J : It) (xs : List D) (g : Mp → Prop) : Prop where
  go : ∀ (i : Nat) (an : An) (P : Addr → Prop) (H : Hp) (M : Mp) (x : D), ExtW P0 H0 M0 P H M → RelH (wd X an P) H M → g M → xs[i]? = some x → J.go i H
  stop : ∀ (i : Nat) (an : An) (P : Addr → Prop) (H : Hp) (M : Mp), ExtW P0 H0 M0 P H M → RelH (wd X an P) H M → g M → xs.length = i → J.stop i H
  yld : ∀ (i : Nat) (an : An) (P : Addr → Prop) (H : Hp) (M : Mp) (x : D) (v : V) (H' : Hp), ExtW P0 H0 M0 P H M → RelH (wd X an P) H M → g M → xs[i]? = some x → J.yld i H v H' → Ext H M H' M ∧ RelH (wd X an P) H' M ∧ Rep (wd X an P) H' M x v
def liftI (X : Cx) (an : An) (r : TID) : TI := fun σ H RR => ∃ P ρ M RD, RepE (wd X an P) H M ρ σ ∧ RelH (wd X an P) H M ∧ r ρ M RD ∧
  ∀ xs g M', RD xs g M' → ∀ J H', Ext H M H' M' → RelH (wd X an P) H' M' → xs.length ≤ sizeLine → ItRep X P H' M' J xs g → RR J H'
abbrev TGD := D → Env1 → Mp → (Env1 → Mp → Prop) → Prop
def liftG (X : Cx) (an : An) (b : TGD) : TG := fun v σ H Q => ∃ P d ρ M RD, Rep (wd X an P) H M d v ∧ RepE (wd X an P) H M ρ σ ∧ RelH (wd X an P) H M ∧ b d ρ M RD ∧
  ∀ ρ' M', RD ρ' M' → ∀ σ' H', Ext H M H' M' → RelH (wd X an P) H' M' → RepE (wd X an P) H' M' ρ' σ' → Q σ' H'
section
variable {X : Cx} {an : An} {P : Addr → Prop}
theorem drop_cons {α : Type} {xs : List α} {i : Nat} {x : α} (h : xs[i]? = some x) : xs.drop i = x :: xs.drop (i + 1) := by
  obtain ⟨hi, e⟩ := List.getElem?_eq_some_iff.mp h
  rw [← e]
  exact List.drop_eq_getElem_cons hi
/-- the loop, from the fold -/
theorem for_fold {b : TGD} {body : TSD} {xs : List D} {g : Mp → Prop} {R : EndsD} {ρ : Env1} {M : Mp} {H : Hp} {σ : L2.St} {J : It} {Dn : Ends} (hE : RepE (wd X an P) H M ρ σ) (hR : RelH (wd X an P) H M) (hJ : ItRep X P H M J xs g)
    (h : foldS b body g xs R ρ M)
    (kn : ∀ ρ' M', R.nx ρ' M' → ∀ σ' H', Ext H M H' M' → RelH (wd X an P) H' M' → RepE (wd X an P) H' M' ρ' σ' → Dn.nx σ' H')
    (kr : ∀ d M', R.rt d M' → ∀ v H', Ext H M H' M' → RelH (wd X an P) H' M' → Rep (wd X an P) H' M' d v → Dn.rt v H') :
    ∃ W : Nat → Nat → L2.St → Hp → Prop, (∃ m, W 0 m σ H) ∧ ∀ i m σ H, W i m σ H →
      (J.stop i H ∧ Dn.nx σ H) ∨ (J.go i H ∧ ∃ N : L2.St → Hp → Prop, (∀ σ' H', N σ' H' → ∃ m', m' < m ∧ W (i + 1) m' σ' H') ∧ ∀ x H', J.yld i H x H' → liftG X an b x σ H' fun σ2 H2 => liftS X an body { Dn with nx := N, ct := N, bk := Dn.nx } σ2 H2) := by
  refine ⟨fun i m σ1 H1 => ∃ ρ1 M1, RepE (wd X an P) H1 M1 ρ1 σ1 ∧ RelH (wd X an P) H1 M1 ∧ Ext H M H1 M1 ∧ i + m = xs.length ∧ foldS b body g (xs.drop i) R ρ1 M1, ⟨xs.length, ρ, M, hE, hR, .refl, by omega, h⟩, ?_⟩
  rintro i m σ1 H1 ⟨ρ1, M1, hE1, hR1, e1, em, h1⟩
  cases hx : xs[i]? with
  | none =>
    have hl : xs.length ≤ i := List.getElem?_eq_none_iff.mp hx
    rw [List.drop_eq_nil_of_le hl] at h1
    exact .inl ⟨hJ.stop i an P H1 M1 (.of e1) hR1 h1.1 (by omega), kn _ _ h1.2 _ _ e1 hR1 hE1⟩
  | some x =>
    rw [drop_cons hx] at h1
    obtain ⟨hg, h1⟩ := h1
    have hi : i < xs.length := (List.getElem?_eq_some_iff.mp hx).1
    refine .inr ⟨hJ.go i an P H1 M1 x (.of e1) hR1 hg hx, fun σ' H' => ∃ ρ' M', RepE (wd X an P) H' M' ρ' σ' ∧ RelH (wd X an P) H' M' ∧ Ext H M H' M' ∧ foldS b body g (xs.drop (i + 1)) R ρ' M', ?_, ?_⟩
    · rintro σ' H' ⟨ρ', M', a1, a2, a3, a4⟩
      exact ⟨m - 1, by omega, ρ', M', a1, a2, a3, by omega, a4⟩
    · intro v H' hy
      obtain ⟨y1, y2, y3⟩ := hJ.yld i an P H1 M1 x v H' (.of e1) hR1 hg hx hy
      refine ⟨P, x, ρ1, M1, _, y3, hE1.ext y1, y2, h1, fun ρ2 M2 h2 σ2 H2 e2 r2 E2 => ?_⟩
      have e02 := (e1.trans y1).trans e2
      refine ⟨P, ρ2, M2, _, E2, r2, h2, fun ρ3 M3 h3 σ3 H3 e3 r3 E3 => ⟨ρ3, M3, E3, r3, e02.trans e3, h3⟩, fun d M3 h3 v3 H3 e3 r3 p3 => kr _ _ h3 _ _ (e02.trans e3) r3 p3, fun ρ3 M3 h3 σ3 H3 e3 r3 E3 => kn _ _ h3 _ _ (e02.trans e3) r3 E3, fun ρ3 M3 h3 σ3 H3 e3 r3 E3 => ⟨ρ3, M3, E3, r3, e02.trans e3, h3⟩⟩
theorem wipe_rep {F : Wd} {H : Hp} {M : Mp} {ρ : Env1} {σ : L2.St} (r : RepE F H M ρ σ) : ∀ vs : List Nat, RepE F H M (wipeD ρ vs) (wipe σ vs)
  | [] => r
  | v :: vs => (wipe_rep r vs).setN
/-- the comprehension, from the fold -/
theorem lc_fold {b : TGD} {cond : TTD} {elt : TD} {xs : List D} {g : Mp → Prop} {ρ : Env1} {M : Mp} {H : Hp} {σ : L2.St} {vs : List Nat} {J : It} {R : List D → Mp → Prop} {Q : VK} {D0 : Addr}
    (gg : TG) (hgg : ∀ P v H M d ρ1 RD Q', Rep (wd X .top P) H M d v → RepE (wd X .top P) H M ρ1 (wipe σ vs) → RelH (wd X .top P) H M → b d ρ1 M RD → (∀ ρ' M', RD ρ' M' → ∀ σ' H', wipe σ' vs = wipe σ vs → Ext H M H' M' → RelH (wd X .top P) H' M' → RepE (wd X .top P) H' M' ρ' σ' → Q' σ' H') → gg v (wipe σ vs) H Q')
    (hE : RepE (wd X an P) H M ρ σ) (hR : RelH (wd X an P) H M) (hJ : ItRep X P H M J xs g) (hD : H D0 = none) (hz : xs.length ≤ sizeLine)
    (h : foldC b cond elt (wipeD ρ vs) g xs [] M R)
    (k : ∀ ds M', R ds M' → ∀ us H', H' D0 = some (.lst us) → M' D0 = none → Ext H M H' M' → RelH (wd X .top (hid P D0)) H' M' → Reps (wd X .top (hid P D0)) H' M' ds us → Q (.ref D0) H') :
    ∃ W : Nat → Nat → Hp → Prop, (∃ m, W 0 m (upd H D0 (.lst []))) ∧ ∀ i m H, W i m H →
      (J.stop i H ∧ Q (.ref D0) H) ∨ (J.go i H ∧ ∃ Nx : Hp → Prop, (∀ H', Nx H' → ∃ m', m' < m ∧ W (i + 1) m' H') ∧ ∀ x H', J.yld i H x H' → gg x (wipe σ vs) H' fun σ2 H2 => wipe σ2 vs = wipe σ vs ∧ liftT X .top cond σ2 H2 fun bb H3 =>
        if bb = true then lift X .top elt σ2 H3 fun y H4 => ∃ acc, H4 D0 = some (.lst acc) ∧ acc.length < sizeLine ∧ Nx (upd H4 D0 (.lst (acc ++ [y]))) else Nx H3) := by
  refine ⟨fun i m H1 => ∃ M1 ds us, H1 D0 = some (.lst us) ∧ Reps (wd X .top (hid P D0)) H1 M1 ds us ∧ RelH (wd X .top (hid P D0)) H1 M1 ∧ ExtP P H M (hid P D0) H1 M1 ∧ i + m = xs.length ∧ us.length ≤ i ∧ foldC b cond elt (wipeD ρ vs) g (xs.drop i) ds M1 R,
    ⟨xs.length, M, [], [], upd_same, .nil, hR.hide hD, ExtP.hide hD, by omega, Nat.zero_le _, h⟩, ?_⟩
  rintro i m H1 ⟨M1, ds, us, hd, pd, hR1, e1, em, ul, h1⟩
  have p0 : hid P D0 D0 := .inr rfl
  have hm : M1 D0 = none := (hR1.pv D0 p0).1
  cases hx : xs[i]? with
  | none =>
    have hl : xs.length ≤ i := List.getElem?_eq_none_iff.mp hx
    rw [List.drop_eq_nil_of_le hl] at h1
    exact .inl ⟨hJ.stop i _ _ H1 M1 e1.w hR1 h1.1 (by omega), k _ _ h1.2 _ _ hd hm e1.ext hR1 pd⟩
  | some x =>
    rw [drop_cons hx] at h1
    obtain ⟨hg, h1⟩ := h1
    have hi : i < xs.length := (List.getElem?_eq_some_iff.mp hx).1
    refine .inr ⟨hJ.go i _ _ H1 M1 x e1.w hR1 hg hx, fun H' => ∃ M' ds us, H' D0 = some (.lst us) ∧ Reps (wd X .top (hid P D0)) H' M' ds us ∧ RelH (wd X .top (hid P D0)) H' M' ∧ ExtP P H M (hid P D0) H' M' ∧ us.length ≤ i + 1 ∧ foldC b cond elt (wipeD ρ vs) g (xs.drop (i + 1)) ds M' R, ?_, ?_⟩
    · rintro H' ⟨M', ds, us, a1, a3, a4, a5, a6, a7⟩
      exact ⟨m - 1, by omega, M', ds, us, a1, a3, a4, a5, by omega, a6, a7⟩
    · intro v H' hy
      obtain ⟨y1, y2, y3⟩ := hJ.yld i _ _ H1 M1 x v H' e1.w hR1 hg hx hy
      have hE1 : RepE (wd X .top (hid P D0)) H' M1 ρ σ := (RepE.extP (an' := .top) e1 hE).ext y1
      refine hgg _ v H' M1 x _ _ _ y3 (wipe_rep hE1 vs) y2 h1 fun ρ2 M2 h2 σ2 H2 hw e2 r2 E2 => ⟨hw, ?_⟩
      have e12 := y1.trans e2
      refine ⟨_, ρ2, M2, _, E2, r2, h2, fun bb M3 h3 H3 e3 r3 => ?_⟩
      have e13 := e12.trans e3
      have up : ∀ {Hn : Hp} {Mn : Mp}, Ext H1 M1 Hn Mn → ExtP P H M (hid P D0) Hn Mn := fun q => ⟨e1.ext.trans q, e1.up, e1.nw⟩
      cases bb with
      | true =>
        show lift X .top elt σ2 H3 _
        refine ⟨_, ρ2, M3, _, E2.ext e3, r3, h3, fun d M4 h4 v4 H4 e4 r4 p4 => ?_⟩
        have e14 := e13.trans e4
        have q4 := e14.keep D0 _ hm hd
        have nt : ∀ xs, ¬ Rd H4 D0 (.tup xs) := fun xs z => by
          rcases z with z | ⟨o, z⟩ <;> (rw [q4.1] at z; cases z)
        exact ⟨us, q4.1, by omega, M4, ds ++ [d], us ++ [v4], upd_same, ((pd.ext e14).append (.cons p4 .nil)).priv p0 nt, r4.priv p0 nt, (up e14).priv hD, by simp; omega, h4⟩
      | false =>
        have q3 := e13.keep D0 _ hm hd
        exact ⟨M3, ds, us, q3.1, pd.ext e13, r3, up e13, by omega, h3⟩
theorem putK_le (c : List (Key × V)) (k : Key) (x : V) : (putK c k x).length ≤ c.length + 1 := by
  unfold putK; split
  · rw [List.length_map]; omega
  · rw [List.length_append]; exact Nat.le_refl _
/-- .. into a dict -/
theorem dc_fold {b : TGD} {cond : TTD} {kx vx : TD} {xs : List D} {g : Mp → Prop} {ρ : Env1} {M : Mp} {H : Hp} {σ : L2.St} {vs : List Nat} {J : It} {R : List (Key × D) → Mp → Prop} {Q : VK} {D0 : Addr}
    (gg : TG) (hgg : ∀ P v H M d ρ1 RD Q', Rep (wd X .top P) H M d v → RepE (wd X .top P) H M ρ1 (wipe σ vs) → RelH (wd X .top P) H M → b d ρ1 M RD → (∀ ρ' M', RD ρ' M' → ∀ σ' H', wipe σ' vs = wipe σ vs → Ext H M H' M' → RelH (wd X .top P) H' M' → RepE (wd X .top P) H' M' ρ' σ' → Q' σ' H') → gg v (wipe σ vs) H Q')
    (hE : RepE (wd X an P) H M ρ σ) (hR : RelH (wd X an P) H M) (hJ : ItRep X P H M J xs g) (hD : H D0 = none) (hz : xs.length ≤ sizeLine)
    (h : foldK b cond kx vx (wipeD ρ vs) g xs [] M R)
    (k : ∀ ds M', R ds M' → ∀ us H', H' D0 = some (.dK us) → M' D0 = none → Ext H M H' M' → RelH (wd X .top (hid P D0)) H' M' → RepK (wd X .top (hid P D0)) H' M' ds us → Q (.ref D0) H') :
    ∃ W : Nat → Nat → Hp → Prop, (∃ m, W 0 m (upd H D0 (.dK []))) ∧ ∀ i m H, W i m H →
      (J.stop i H ∧ Q (.ref D0) H) ∨ (J.go i H ∧ ∃ Nx : Hp → Prop, (∀ H', Nx H' → ∃ m', m' < m ∧ W (i + 1) m' H') ∧ ∀ x H', J.yld i H x H' → gg x (wipe σ vs) H' fun σ2 H2 => wipe σ2 vs = wipe σ vs ∧ liftT X .top cond σ2 H2 fun bb H3 =>
        if bb = true then lift X .top kx σ2 H3 fun y H4 => lift X .top vx σ2 H4 fun z H5 => ∃ acc k, y = kV k ∧ H5 D0 = some (.dK acc) ∧ acc.length < sizeLine ∧ Nx (upd H5 D0 (.dK (putK acc k z))) else Nx H3) := by
  refine ⟨fun i m H1 => ∃ M1 ds us, H1 D0 = some (.dK us) ∧ RepK (wd X .top (hid P D0)) H1 M1 ds us ∧ RelH (wd X .top (hid P D0)) H1 M1 ∧ ExtP P H M (hid P D0) H1 M1 ∧ i + m = xs.length ∧ us.length ≤ i ∧ foldK b cond kx vx (wipeD ρ vs) g (xs.drop i) ds M1 R,
    ⟨xs.length, M, [], [], upd_same, .nil, hR.hide hD, ExtP.hide hD, by omega, Nat.zero_le _, h⟩, ?_⟩
  rintro i m H1 ⟨M1, ds, us, hd, pd, hR1, e1, em, ul, h1⟩
  have p0 : hid P D0 D0 := .inr rfl
  have hm : M1 D0 = none := (hR1.pv D0 p0).1
  cases hx : xs[i]? with
  | none =>
    have hl : xs.length ≤ i := List.getElem?_eq_none_iff.mp hx
    rw [List.drop_eq_nil_of_le hl] at h1
    exact .inl ⟨hJ.stop i _ _ H1 M1 e1.w hR1 h1.1 (by omega), k _ _ h1.2 _ _ hd hm e1.ext hR1 pd⟩
  | some x =>
    rw [drop_cons hx] at h1
    obtain ⟨hg, h1⟩ := h1
    have hi : i < xs.length := (List.getElem?_eq_some_iff.mp hx).1
    refine .inr ⟨hJ.go i _ _ H1 M1 x e1.w hR1 hg hx, fun H' => ∃ M' ds us, H' D0 = some (.dK us) ∧ RepK (wd X .top (hid P D0)) H' M' ds us ∧ RelH (wd X .top (hid P D0)) H' M' ∧ ExtP P H M (hid P D0) H' M' ∧ us.length ≤ i + 1 ∧ foldK b cond kx vx (wipeD ρ vs) g (xs.drop (i + 1)) ds M' R, ?_, ?_⟩
    · rintro H' ⟨M', ds, us, a1, a3, a4, a5, a6, a7⟩
      exact ⟨m - 1, by omega, M', ds, us, a1, a3, a4, a5, by omega, a6, a7⟩
    · intro v H' hy
      obtain ⟨y1, y2, y3⟩ := hJ.yld i _ _ H1 M1 x v H' e1.w hR1 hg hx hy
      have hE1 : RepE (wd X .top (hid P D0)) H' M1 ρ σ := (RepE.extP (an' := .top) e1 hE).ext y1
      refine hgg _ v H' M1 x _ _ _ y3 (wipe_rep hE1 vs) y2 h1 fun ρ2 M2 h2 σ2 H2 hw e2 r2 E2 => ⟨hw, ?_⟩
      have e12 := y1.trans e2
      refine ⟨_, ρ2, M2, _, E2, r2, h2, fun bb M3 h3 H3 e3 r3 => ?_⟩
      have e13 := e12.trans e3
      have up : ∀ {Hn : Hp} {Mn : Mp}, Ext H1 M1 Hn Mn → ExtP P H M (hid P D0) Hn Mn := fun q => ⟨e1.ext.trans q, e1.up, e1.nw⟩
      cases bb with
      | true =>
        show lift X .top kx σ2 H3 _
        refine ⟨_, ρ2, M3, _, E2.ext e3, r3, h3, fun kd M4 h4 v4 H4 e4 r4 p4 => ?_⟩
        refine ⟨_, ρ2, M4, _, (E2.ext e3).ext e4, r4, h4, fun d M5 h5 v5 H5 e5 r5 p5 => ?_⟩
        have e15 := (e13.trans e4).trans e5
        have q5 := e15.keep D0 _ hm hd
        have nt : ∀ xs, ¬ Rd H5 D0 (.tup xs) := fun xs z => by
          rcases z with z | ⟨o, z⟩ <;> (rw [q5.1] at z; cases z)
        split at h5
        · rename_i kk ek
          have hk := keyRep p4 ek
          refine ⟨us, kk, hk, q5.1, by omega, M5, putKD ds kk d, putK us kk v5, upd_same, ((pd.ext e15).put p5).priv p0 nt, r5.priv p0 nt, (up e15).priv hD, by have := putK_le us kk v5; omega, h5⟩
        · exact h5.elim
      | false =>
        have q3 := e13.keep D0 _ hm hd
        exact ⟨M3, ds, us, q3.1, pd.ext e13, r3, up e13, by omega, h3⟩
/-- a walk within a comprehension that is under way -/
theorem in_fold {b : TGD} {cond : TTD} {elt : TD} {xs : List D} {g : Mp → Prop} {ρ : Env1} {M : Mp} {H : Hp} {σ : L2.St} {vs : List Nat} {J : It} {R : List D → Mp → Prop} {Nx : Hp → Prop} {D0 : Addr} {P0 : Addr → Prop} {HH : Hp} {MM : Mp} {ds0 : List D} {us0 : List V}
    (gg : TG) (hgg : ∀ P v H M d ρ1 RD Q', Rep (wd X .top P) H M d v → RepE (wd X .top P) H M ρ1 (wipe σ vs) → RelH (wd X .top P) H M → b d ρ1 M RD → (∀ ρ' M', RD ρ' M' → ∀ σ' H', wipe σ' vs = wipe σ vs → Ext H M H' M' → RelH (wd X .top P) H' M' → RepE (wd X .top P) H' M' ρ' σ' → Q' σ' H') → gg v (wipe σ vs) H Q')
    (hE : RepE (wd X .top (hid P0 D0)) H M ρ σ) (hR : RelH (wd X .top (hid P0 D0)) H M) (hJ : ItRep X (hid P0 D0) H M J xs g) (h0 : HH D0 = none) (e0 : ExtP P0 HH MM (hid P0 D0) H M) (hd0 : H D0 = some (.lst us0)) (pd0 : Reps (wd X .top (hid P0 D0)) H M ds0 us0)
    (h : foldCz b cond elt (wipeD ρ vs) g xs ds0 M R)
    (k : ∀ ds M', R ds M' → ∀ us H', H' D0 = some (.lst us) → ExtP P0 HH MM (hid P0 D0) H' M' → RelH (wd X .top (hid P0 D0)) H' M' → Reps (wd X .top (hid P0 D0)) H' M' ds us → ExtW (hid P0 D0) H M (hid P0 D0) H' M' → Nx H') :
    ∃ W : Nat → Nat → Hp → Prop, (∃ m, W 0 m H) ∧ ∀ i m H, W i m H →
      (J.stop i H ∧ Nx H) ∨ (J.go i H ∧ ∃ Nx1 : Hp → Prop, (∀ H', Nx1 H' → ∃ m', m' < m ∧ W (i + 1) m' H') ∧ ∀ x H', J.yld i H x H' → gg x (wipe σ vs) H' fun σ2 H2 => wipe σ2 vs = wipe σ vs ∧ liftT X .top cond σ2 H2 fun bb H3 =>
        if bb = true then lift X .top elt σ2 H3 fun y H4 => ∃ acc, H4 D0 = some (.lst acc) ∧ acc.length < sizeLine ∧ Nx1 (upd H4 D0 (.lst (acc ++ [y]))) else Nx1 H3) := by
  have p0 : hid P0 D0 D0 := .inr rfl
  refine ⟨fun i m H1 => ∃ M1 ds us, H1 D0 = some (.lst us) ∧ Reps (wd X .top (hid P0 D0)) H1 M1 ds us ∧ RelH (wd X .top (hid P0 D0)) H1 M1 ∧ ExtP P0 HH MM (hid P0 D0) H1 M1 ∧ ExtW (hid P0 D0) H M (hid P0 D0) H1 M1 ∧ i + m = xs.length ∧ foldCz b cond elt (wipeD ρ vs) g (xs.drop i) ds M1 R,
    ⟨xs.length, M, ds0, us0, hd0, pd0, hR, e0, .of .refl, by omega, h⟩, ?_⟩
  rintro i m H1 ⟨M1, ds, us, hd, pd, hR1, e1, w1, em, h1⟩
  have hm : M1 D0 = none := (hR1.pv D0 p0).1
  cases hx : xs[i]? with
  | none =>
    have hl : xs.length ≤ i := List.getElem?_eq_none_iff.mp hx
    rw [List.drop_eq_nil_of_le hl] at h1
    exact .inl ⟨hJ.stop i _ _ H1 M1 w1 hR1 h1.1 (by omega), k _ _ h1.2 _ _ hd e1 hR1 pd w1⟩
  | some x =>
    rw [drop_cons hx] at h1
    obtain ⟨hg, h1⟩ := h1
    have hi : i < xs.length := (List.getElem?_eq_some_iff.mp hx).1
    refine .inr ⟨hJ.go i _ _ H1 M1 x w1 hR1 hg hx, fun H' => ∃ M' ds us, H' D0 = some (.lst us) ∧ Reps (wd X .top (hid P0 D0)) H' M' ds us ∧ RelH (wd X .top (hid P0 D0)) H' M' ∧ ExtP P0 HH MM (hid P0 D0) H' M' ∧ ExtW (hid P0 D0) H M (hid P0 D0) H' M' ∧ foldCz b cond elt (wipeD ρ vs) g (xs.drop (i + 1)) ds M' R, ?_, ?_⟩
    · rintro H' ⟨M', ds, us, a1, a3, a4, a5, a6, a7⟩
      exact ⟨m - 1, by omega, M', ds, us, a1, a3, a4, a5, a6, by omega, a7⟩
    · intro v H' hy
      obtain ⟨y1, y2, y3⟩ := hJ.yld i _ _ H1 M1 x v H' w1 hR1 hg hx hy
      have hE1 : RepE (wd X .top (hid P0 D0)) H' M1 ρ σ := (RepE.extW (an' := .top) w1 hE).ext y1
      refine hgg _ v H' M1 x _ _ _ y3 (wipe_rep hE1 vs) y2 h1 fun ρ2 M2 h2 σ2 H2 hw e2 r2 E2 => ⟨hw, ?_⟩
      have e12 := y1.trans e2
      refine ⟨_, ρ2, M2, _, E2, r2, h2, fun bb M3 h3 H3 e3 r3 => ?_⟩
      have e13 := e12.trans e3
      have up : ∀ {Hn : Hp} {Mn : Mp}, Ext H1 M1 Hn Mn → ExtP P0 HH MM (hid P0 D0) Hn Mn := fun q => ⟨e1.ext.trans q, e1.up, e1.nw⟩
      have upw : ∀ {Hn : Hp} {Mn : Mp}, Ext H1 M1 Hn Mn → ExtW (hid P0 D0) H M (hid P0 D0) Hn Mn := fun q => ⟨fun a xs z => q.tup a xs (w1.tup a xs z), fun a u n z1 z2 => let ⟨z3, z4⟩ := w1.keep a u n z1 z2; q.keep a u z4 z3, w1.nw⟩
      cases bb with
      | true =>
        show lift X .top elt σ2 H3 _
        refine ⟨_, ρ2, M3, _, E2.ext e3, r3, h3, fun d M4 h4 v4 H4 e4 r4 p4 => ?_⟩
        have e14 := e13.trans e4
        have q4 := e14.keep D0 _ hm hd
        have nt : ∀ xs, ¬ Rd H4 D0 (.tup xs) := fun xs z => by
          rcases z with z | ⟨o, z⟩ <;> (rw [q4.1] at z; cases z)
        refine ⟨us, q4.1, by rw [← pd.length]; exact h4.1, M4, ds ++ [d], us ++ [v4], upd_same, ((pd.ext e14).append (.cons p4 .nil)).priv p0 nt, r4.priv p0 nt, (up e14).priv h0, ?_, h4.2⟩
        have w4 := upw e14
        refine ⟨fun a xs z => ?_, fun a u n z1 z2 => ?_, w4.nw⟩
        · refine rdNe (w4.tup a xs z) fun e => ?_
          subst e
          exact nt xs (w4.tup a xs z)
        · have na : a ≠ D0 := by rintro rfl; exact n p0
          rw [upd_ne na]; exact w4.keep a u n z1 z2
      | false =>
        have q3 := e13.keep D0 _ hm hd
        exact ⟨M3, ds, us, q3.1, pd.ext e13, r3, up e13, upw e13, h3⟩
/-- two walks, one within the other -/
theorem lc2_fold {b b1 : TGD} {cond cond1 : TTD} {elt : TD} {it1 : TID} {xs : List D} {g : Mp → Prop} {ρ : Env1} {M : Mp} {H : Hp} {σ : L2.St} {vs vs1 : List Nat} {J : It} {R : List D → Mp → Prop} {Q : VK} {D0 : Addr}
    (gg gg1 : TG) (hgg : ∀ P v H M d ρ1 RD Q', Rep (wd X .top P) H M d v → RepE (wd X .top P) H M ρ1 (wipe σ vs) → RelH (wd X .top P) H M → b d ρ1 M RD → (∀ ρ' M', RD ρ' M' → ∀ σ' H', wipe σ' vs = wipe σ vs → Ext H M H' M' → RelH (wd X .top P) H' M' → RepE (wd X .top P) H' M' ρ' σ' → Q' σ' H') → gg v (wipe σ vs) H Q')
    (hgg1 : ∀ σ2 P v H M d ρ1 RD Q', Rep (wd X .top P) H M d v → RepE (wd X .top P) H M ρ1 (wipe σ2 vs1) → RelH (wd X .top P) H M → b1 d ρ1 M RD → (∀ ρ' M', RD ρ' M' → ∀ σ' H', wipe σ' vs1 = wipe σ2 vs1 → Ext H M H' M' → RelH (wd X .top P) H' M' → RepE (wd X .top P) H' M' ρ' σ' → Q' σ' H') → gg1 v (wipe σ2 vs1) H Q')
    (hE : RepE (wd X an P) H M ρ σ) (hR : RelH (wd X an P) H M) (hJ : ItRep X P H M J xs g) (hD : H D0 = none)
    (h : foldC2 b cond (fun ρ2 M2 acc Q2 => it1 ρ2 M2 fun xs1 g1 M3 => foldCz b1 cond1 elt (wipeD ρ2 vs1) g1 xs1 acc M3 Q2) (wipeD ρ vs) g xs [] M R)
    (k : ∀ ds M', R ds M' → ∀ us H', H' D0 = some (.lst us) → M' D0 = none → Ext H M H' M' → RelH (wd X .top (hid P D0)) H' M' → Reps (wd X .top (hid P D0)) H' M' ds us → Q (.ref D0) H') :
    ∃ W : Nat → Nat → Hp → Prop, (∃ m, W 0 m (upd H D0 (.lst []))) ∧ ∀ i m H, W i m H →
      (J.stop i H ∧ Q (.ref D0) H) ∨ (J.go i H ∧ ∃ Nx : Hp → Prop, (∀ H', Nx H' → ∃ m', m' < m ∧ W (i + 1) m' H') ∧ ∀ x H', J.yld i H x H' → gg x (wipe σ vs) H' fun σ2 H2 => wipe σ2 vs = wipe σ vs ∧ liftT X .top cond σ2 H2 fun bb H3 =>
        if bb = true then liftI X .top it1 σ2 H3 fun J1 H4 => ∃ W1 : Nat → Nat → Hp → Prop, (∃ m, W1 0 m H4) ∧ ∀ j k H, W1 j k H → (J1.stop j H ∧ Nx H) ∨ (J1.go j H ∧ ∃ Nx1 : Hp → Prop, (∀ H', Nx1 H' → ∃ k', k' < k ∧ W1 (j + 1) k' H') ∧ ∀ x H', J1.yld j H x H' → gg1 x (wipe σ2 vs1) H' fun σ3 H5 => wipe σ3 vs1 = wipe σ2 vs1 ∧ liftT X .top cond1 σ3 H5 fun b H6 =>
          if b = true then lift X .top elt σ3 H6 fun y H7 => ∃ acc, H7 D0 = some (.lst acc) ∧ acc.length < sizeLine ∧ Nx1 (upd H7 D0 (.lst (acc ++ [y]))) else Nx1 H6) else Nx H3) := by
  refine ⟨fun i m H1 => ∃ M1 ds us, H1 D0 = some (.lst us) ∧ Reps (wd X .top (hid P D0)) H1 M1 ds us ∧ RelH (wd X .top (hid P D0)) H1 M1 ∧ ExtP P H M (hid P D0) H1 M1 ∧ i + m = xs.length ∧ foldC2 b cond (fun ρ2 M2 acc Q2 => it1 ρ2 M2 fun xs1 g1 M3 => foldCz b1 cond1 elt (wipeD ρ2 vs1) g1 xs1 acc M3 Q2) (wipeD ρ vs) g (xs.drop i) ds M1 R,
    ⟨xs.length, M, [], [], upd_same, .nil, hR.hide hD, ExtP.hide hD, by omega, h⟩, ?_⟩
  rintro i m H1 ⟨M1, ds, us, hd, pd, hR1, e1, em, h1⟩
  have p0 : hid P D0 D0 := .inr rfl
  have hm : M1 D0 = none := (hR1.pv D0 p0).1
  cases hx : xs[i]? with
  | none =>
    have hl : xs.length ≤ i := List.getElem?_eq_none_iff.mp hx
    rw [List.drop_eq_nil_of_le hl] at h1
    exact .inl ⟨hJ.stop i _ _ H1 M1 e1.w hR1 h1.1 (by omega), k _ _ h1.2 _ _ hd hm e1.ext hR1 pd⟩
  | some x =>
    rw [drop_cons hx] at h1
    obtain ⟨hg, h1⟩ := h1
    have hi : i < xs.length := (List.getElem?_eq_some_iff.mp hx).1
    refine .inr ⟨hJ.go i _ _ H1 M1 x e1.w hR1 hg hx, fun H' => ∃ M' ds us, H' D0 = some (.lst us) ∧ Reps (wd X .top (hid P D0)) H' M' ds us ∧ RelH (wd X .top (hid P D0)) H' M' ∧ ExtP P H M (hid P D0) H' M' ∧ foldC2 b cond (fun ρ2 M2 acc Q2 => it1 ρ2 M2 fun xs1 g1 M3 => foldCz b1 cond1 elt (wipeD ρ2 vs1) g1 xs1 acc M3 Q2) (wipeD ρ vs) g (xs.drop (i + 1)) ds M' R, ?_, ?_⟩
    · rintro H' ⟨M', ds, us, a1, a3, a4, a5, a7⟩
      exact ⟨m - 1, by omega, M', ds, us, a1, a3, a4, a5, by omega, a7⟩
    · intro v H' hy
      obtain ⟨y1, y2, y3⟩ := hJ.yld i _ _ H1 M1 x v H' e1.w hR1 hg hx hy
      have hE1 : RepE (wd X .top (hid P D0)) H' M1 ρ σ := (RepE.extP (an' := .top) e1 hE).ext y1
      refine hgg _ v H' M1 x _ _ _ y3 (wipe_rep hE1 vs) y2 h1 fun ρ2 M2 h2 σ2 H2 hw e2 r2 E2 => ⟨hw, ?_⟩
      have e12 := y1.trans e2
      refine ⟨_, ρ2, M2, _, E2, r2, h2, fun bb M3 h3 H3 e3 r3 => ?_⟩
      have e13 := e12.trans e3
      have up : ∀ {Hn : Hp} {Mn : Mp}, Ext H1 M1 Hn Mn → ExtP P H M (hid P D0) Hn Mn := fun q => ⟨e1.ext.trans q, e1.up, e1.nw⟩
      cases bb with
      | true =>
        show liftI X .top it1 σ2 H3 _
        refine ⟨_, ρ2, M3, _, E2.ext e3, r3, h3, fun xs1 g1 M4 h4 J1 H4 e4 r4 hz1 hJ1 => ?_⟩
        have e14 := e13.trans e4
        have q4 := e14.keep D0 _ hm hd
        refine in_fold gg1 (hgg1 σ2) ((E2.ext e3).ext e4) r4 hJ1 hD (up e14) q4.1 (pd.ext e14) h4 fun ds' M' hr us' H' d' e' r' p' w' => ?_
        exact ⟨M', ds', us', d', p', r', e', hr⟩
      | false =>
        have q3 := e13.keep D0 _ hm hd
        exact ⟨M3, ds, us, q3.1, pd.ext e13, r3, up e13, h3⟩
end
end DS

/-! DS6: what is walked -/
namespace DS
open PySem PySem.Spec PyProof.Rows L2

section
variable {X : Cx}
theorem PE.len {e : Expr} {t : TE} (h : PE X e t) : PE X e (fun σ H Q => t σ H fun v H' => LenOk X H' → Q v H') :=
  ⟨fun pins s σ H Q I w => thn (h.run pins s σ H _ I w) fun u s1 ⟨v, H1, I1, r, q⟩ => ⟨v, H1, I1, r, q (Inv.lenOk I1)⟩⟩
/-- every locked dict is within the line -/
def DkOk (H : Hp) : Prop := ∀ a o kvs, H a = some (.frz o (.dK kvs)) → kvs.length ≤ sizeLine
theorem PE.lenK {e : Expr} {t : TE} (h : PE X e t) : PE X e (fun σ H Q => t σ H fun v H' => DkOk H' → Q v H') :=
  ⟨fun pins s σ H Q I w => thn (h.run pins s σ H _ I w) fun u s1 ⟨v, H1, I1, r, q⟩ => ⟨v, H1, I1, r, q fun a o kvs e => (I1.hok a _ e).2.1⟩⟩
theorem PA.len {es : List Expr} {t : TA} (h : PA X es t) : PA X es (fun σ H Q => t σ H fun v H' => LenOk X H' → Q v H') :=
  ⟨fun p pins s σ H Q I w => thn (h.run p pins s σ H _ I w) fun u s1 ⟨v, H1, I1, r, q⟩ => ⟨v, H1, I1, r, q (Inv.lenOk I1)⟩⟩
variable {an0 an : An} {P0 P : Addr → Prop} {H0 H : Hp} {M0 M : Mp}
/-- a list stands later -/
theorem lsLater {d : D} {ds : List D} {a : Addr} (h : lsOf M0 d = some ds) (p : Rep (wd X an0 P0) H0 M0 d (.ref a)) (e : ExtW P0 H0 M0 P H M) (r : RelH (wd X an P) H M) (st : stay M0 d M) :
    ∃ vs, SqL X.K H a vs ∧ Reps (wd X an P) H M ds vs := by
  cases p with
  | lst h1 h2 hp h3 => cases h; exact ⟨_, .inl (.inl (e.keep _ _ hp h2 h1).1), h3.extW e⟩
  | frl h1 h2 hp h3 => cases h; exact ⟨_, .inl (e.rd hp h2 h1).1, h3.extW e⟩
  | lstK h1 h3 => cases h; exact ⟨_, .inr h1, h3.extW e⟩
  | ref a =>
    have h' : (match M0 a with | some (.lst ds) => some ds | _ => none) = some ds := h
    split at h'
    · rename_i e1
      cases h'
      have st' : M a = M0 a := st
      obtain ⟨vs, q1, q2⟩ := r.ob a _ (st'.trans e1)
      exact ⟨vs, .inl (.inl q1), q2⟩
    · cases h'
  | _ => cases h
theorem tpLater {ds : List D} {a : Addr} (p : Rep (wd X an0 P0) H0 M0 (.tup ds) (.ref a)) (e : ExtW P0 H0 M0 P H M) : ∃ vs, SqT X.K H a vs ∧ Reps (wd X an P) H M ds vs := by
  cases p with
  | tup h1 h2 => exact ⟨_, sqtW e h1, h2.extW e⟩
theorem Rep.ref_of {ds : List D} {d : D} {v : V} (h : sqOf M0 d = some ds) (p : Rep (wd X an0 P0) H0 M0 d v) (r : RelH (wd X an0 P0) H0 M0) : ∃ a, v = .ref a := by
  obtain ⟨a, vs, e, _⟩ := sqRep p r h
  exact ⟨a, e⟩
theorem it_list {d : D} {ds : List D} {a : Addr} (h : lsOf M0 d = some ds) (p : Rep (wd X an0 P0) H0 M0 d (.ref a)) : ItRep X P0 H0 M0 (Itl X.K a) ds (stay M0 d) := by
  refine ⟨fun i an P H M x e r g hx => ?_, fun i an P H M e r g hl => ?_, fun i an P H M x v H' e r g hx hy => ?_⟩
  · obtain ⟨vs, q1, q2⟩ := lsLater h p e r g
    obtain ⟨v, q3, _⟩ := q2.get hx
    exact ⟨vs, v, q1, q3⟩
  · obtain ⟨vs, q1, q2⟩ := lsLater h p e r g
    exact ⟨vs, q1, by rw [← q2.length]; omega⟩
  · obtain ⟨vs, q1, q2⟩ := lsLater h p e r g
    obtain ⟨w, q3, q4⟩ := q2.get hx
    obtain ⟨rfl, hv⟩ := hy
    have := hv vs (q1)
    rw [q3] at this
    cases this
    exact ⟨.refl, r, q4⟩
theorem it_tup {ds : List D} {a : Addr} (p : Rep (wd X an0 P0) H0 M0 (.tup ds) (.ref a)) {g : Mp → Prop} : ItRep X P0 H0 M0 (Itt X.K a) ds g := by
  refine ⟨fun i an P H M x e r g hx => ?_, fun i an P H M e r g hl => ?_, fun i an P H M x v H' e r g hx hy => ?_⟩
  · obtain ⟨vs, q1, q2⟩ := tpLater (an := an) p e
    obtain ⟨v, q3, _⟩ := q2.get hx
    exact ⟨vs, v, q1, q3⟩
  · obtain ⟨vs, q1, q2⟩ := tpLater (an := an) p e
    exact ⟨vs, q1, by rw [← q2.length]; omega⟩
  · obtain ⟨vs, q1, q2⟩ := tpLater (an := an) p e
    obtain ⟨w, q3, q4⟩ := q2.get hx
    obtain ⟨rfl, hv⟩ := hy
    have := hv vs q1
    rw [q3] at this
    cases this
    exact ⟨.refl, r, q4⟩
theorem rgD_get {lo c : Int} {n i : Nat} {x : D} (h : (rgD lo c n)[i]? = some x) : i < n ∧ x = .int (lo + (i : Int) * c) := by
  unfold rgD at h
  rw [List.getElem?_map] at h
  cases e : (List.range n)[i]? with
  | none => rw [e] at h; cases h
  | some j =>
    rw [e] at h
    obtain ⟨hi, ej⟩ := List.getElem?_eq_some_iff.mp e
    rw [List.length_range] at hi
    rw [List.getElem_range] at ej
    subst ej
    cases h
    exact ⟨hi, rfl⟩
theorem rgD_len (lo c : Int) (n : Nat) : (rgD lo c n).length = n := by unfold rgD; rw [List.length_map, List.length_range]
theorem it_rng {lo : Int} {n : Nat} {g : Mp → Prop} : ItRep X P0 H0 M0 (Itr lo n) (rgD lo 1 n) g := by
  refine ⟨fun i an P H M x e r g hx => (rgD_get hx).1, fun i an P H M e r g hl => by rw [rgD_len] at hl; exact Nat.le_of_eq hl, fun i an P H M x v H' e r g hx hy => ?_⟩
  obtain ⟨rfl, rfl⟩ := hy
  obtain ⟨_, rfl⟩ := rgD_get hx
  rw [Int.mul_one]
  exact ⟨.refl, r, .int _⟩
theorem it_rngC {lo c : Int} {n : Nat} {g : Mp → Prop} : ItRep X P0 H0 M0 (Itc lo c n) (rgD lo c n) g := by
  refine ⟨fun i an P H M x e r g hx => (rgD_get hx).1, fun i an P H M e r g hl => by rw [rgD_len] at hl; exact Nat.le_of_eq hl, fun i an P H M x v H' e r g hx hy => ?_⟩
  obtain ⟨rfl, rfl⟩ := hy
  obtain ⟨_, rfl⟩ := rgD_get hx
  exact ⟨.refl, r, .int _⟩
theorem zipD_get : ∀ {xs ys : List D} {i : Nat} {d : D}, (zipD xs ys)[i]? = some d → ∃ x y, xs[i]? = some x ∧ ys[i]? = some y ∧ d = .tup [x, y]
  | [], _, _, _, h => by simp [zipD] at h
  | _ :: _, [], _, _, h => by simp [zipD] at h
  | x :: xs, y :: ys, 0, d, h => by
    simp only [zipD, List.getElem?_cons_zero, Option.some.injEq] at h
    exact ⟨x, y, rfl, rfl, h.symm⟩
  | x :: xs, y :: ys, i + 1, d, h => by
    simp only [zipD, List.getElem?_cons_succ] at h
    obtain ⟨a, b, h1, h2, h3⟩ := zipD_get h
    exact ⟨a, b, by simpa using h1, by simpa using h2, h3⟩
theorem zipD_len : ∀ (xs ys : List D), (zipD xs ys).length = min xs.length ys.length
  | [], _ => by simp [zipD]
  | _ :: _, [] => by simp [zipD]
  | x :: xs, y :: ys => by simp [zipD, zipD_len xs ys]
theorem enumD_get : ∀ {n : Nat} {xs : List D} {i : Nat} {d : D}, (enumD n xs)[i]? = some d → ∃ x, xs[i]? = some x ∧ d = .tup [.int ((n + i : Nat) : Int), x]
  | _, [], _, _, h => by simp [enumD] at h
  | n, x :: xs, 0, d, h => by
    simp only [enumD, List.getElem?_cons_zero, Option.some.injEq] at h
    exact ⟨x, rfl, h.symm⟩
  | n, x :: xs, i + 1, d, h => by
    simp only [enumD, List.getElem?_cons_succ] at h
    obtain ⟨a, h1, h3⟩ := enumD_get h
    exact ⟨a, by simpa using h1, by rw [h3, show n + 1 + i = n + (i + 1) from by omega]⟩
theorem enumD_len : ∀ (n : Nat) (xs : List D), (enumD n xs).length = xs.length
  | _, [] => rfl
  | n, _ :: xs => by simp [enumD, enumD_len (n + 1) xs]
/-- a new pair -/
theorem pair_new (r : RelH (wd X an P) H M) {T : Addr} (nT : H T = none) {x y : D} {v w : V} (px : Rep (wd X an P) H M x v) (py : Rep (wd X an P) H M y w) :
    Ext H M (upd H T (.tup [v, w])) M ∧ RelH (wd X an P) (upd H T (.tup [v, w])) M ∧ Rep (wd X an P) (upd H T (.tup [v, w])) M (.tup [x, y]) (.ref T) :=
  ⟨Ext.newF nT, r.newF nT, .tup (SqT.of upd_same) (.cons (px.ext (Ext.newF nT)) (.cons (py.ext (Ext.newF nT)) .nil))⟩
theorem it_zip {d e : D} {ds es : List D} {a b : Addr} (h : lsOf M0 d = some ds) (h' : lsOf M0 e = some es) (p : Rep (wd X an0 P0) H0 M0 d (.ref a)) (p' : Rep (wd X an0 P0) H0 M0 e (.ref b)) :
    ItRep X P0 H0 M0 (Itz X.K a b) (zipD ds es) (fun M' => stay M0 d M' ∧ stay M0 e M') := by
  refine ⟨fun i an P H M x e r g hx => ?_, fun i an P H M e r g hl => ?_, fun i an P H M x v H' e r g hx hy => ?_⟩
  · obtain ⟨x1, y1, z1, z2, _⟩ := zipD_get hx
    obtain ⟨vs, q1, q2⟩ := lsLater h p e r g.1
    obtain ⟨us, q3, q4⟩ := lsLater h' p' e r g.2
    obtain ⟨v, q5, _⟩ := q2.get z1
    obtain ⟨w, q6, _⟩ := q4.get z2
    exact ⟨vs, us, v, w, q1, q3, q5, q6⟩
  · obtain ⟨vs, q1, q2⟩ := lsLater h p e r g.1
    obtain ⟨us, q3, q4⟩ := lsLater h' p' e r g.2
    rw [zipD_len] at hl
    exact ⟨vs, us, q1, q3, by rw [← q2.length, ← q4.length]; omega⟩
  · obtain ⟨x1, y1, z1, z2, rfl⟩ := zipD_get hx
    obtain ⟨vs, q1, q2⟩ := lsLater h p e r g.1
    obtain ⟨us, q3, q4⟩ := lsLater h' p' e r g.2
    obtain ⟨v1, q5, r1⟩ := q2.get z1
    obtain ⟨w1, q6, r2⟩ := q4.get z2
    obtain ⟨T, a1, b1, rfl, nT, rfl, f1, f2⟩ := hy
    have w1' := f1 vs q1
    have w2' := f2 us q3
    rw [q5] at w1'; rw [q6] at w2'
    cases w1'; cases w2'
    exact pair_new r nT r1 r2
theorem it_zipT {ds es : List D} {a b : Addr} (p : Rep (wd X an0 P0) H0 M0 (.tup ds) (.ref a)) (p' : Rep (wd X an0 P0) H0 M0 (.tup es) (.ref b)) {g : Mp → Prop} :
    ItRep X P0 H0 M0 (RZ.ItzT X.K a b) (zipD ds es) g := by
  refine ⟨fun i an P H M x e r g hx => ?_, fun i an P H M e r g hl => ?_, fun i an P H M x v H' e r g hx hy => ?_⟩
  · obtain ⟨x1, y1, z1, z2, _⟩ := zipD_get hx
    obtain ⟨vs, q1, q2⟩ := tpLater (an := an) p e
    obtain ⟨us, q3, q4⟩ := tpLater (an := an) p' e
    obtain ⟨v, q5, _⟩ := q2.get z1
    obtain ⟨w, q6, _⟩ := q4.get z2
    exact ⟨vs, us, v, w, q1, q3, q5, q6⟩
  · obtain ⟨vs, q1, q2⟩ := tpLater (an := an) p e
    obtain ⟨us, q3, q4⟩ := tpLater (an := an) p' e
    rw [zipD_len] at hl
    exact ⟨vs, us, q1, q3, by rw [← q2.length, ← q4.length]; omega⟩
  · obtain ⟨x1, y1, z1, z2, rfl⟩ := zipD_get hx
    obtain ⟨vs, q1, q2⟩ := tpLater (an := an) p e
    obtain ⟨us, q3, q4⟩ := tpLater (an := an) p' e
    obtain ⟨v1, q5, r1⟩ := q2.get z1
    obtain ⟨w1, q6, r2⟩ := q4.get z2
    obtain ⟨T, a1, b1, rfl, nT, rfl, f1, f2⟩ := hy
    have w1' := f1 vs q1
    have w2' := f2 us q3
    rw [q5] at w1'; rw [q6] at w2'
    cases w1'; cases w2'
    exact pair_new r nT r1 r2
theorem it_enumT {ds : List D} {a : Addr} (p : Rep (wd X an0 P0) H0 M0 (.tup ds) (.ref a)) {g : Mp → Prop} : ItRep X P0 H0 M0 (Itet X.K a) (enumD 0 ds) g := by
  refine ⟨fun i an P H M x e r g hx => ?_, fun i an P H M e r g hl => ?_, fun i an P H M x v H' e r g hx hy => ?_⟩
  · obtain ⟨x1, z1, _⟩ := enumD_get hx
    obtain ⟨vs, q1, q2⟩ := tpLater (an := an) p e
    obtain ⟨v, q3, _⟩ := q2.get z1
    exact ⟨vs, v, q1, q3⟩
  · obtain ⟨vs, q1, q2⟩ := tpLater (an := an) p e
    rw [enumD_len] at hl
    exact ⟨vs, q1, by rw [← q2.length]; omega⟩
  · obtain ⟨x1, z1, rfl⟩ := enumD_get hx
    obtain ⟨vs, q1, q2⟩ := tpLater (an := an) p e
    obtain ⟨w, q3, q4⟩ := q2.get z1
    obtain ⟨T, b1, rfl, nT, rfl, f1⟩ := hy
    have w1' := f1 vs q1
    rw [q3] at w1'
    cases w1'
    rw [Nat.zero_add]
    exact pair_new r nT (.int _) q4
theorem it_enum {d : D} {ds : List D} {a : Addr} (h : lsOf M0 d = some ds) (p : Rep (wd X an0 P0) H0 M0 d (.ref a)) : ItRep X P0 H0 M0 (Ite X.K a) (enumD 0 ds) (stay M0 d) := by
  refine ⟨fun i an P H M x e r g hx => ?_, fun i an P H M e r g hl => ?_, fun i an P H M x v H' e r g hx hy => ?_⟩
  · obtain ⟨x1, z1, _⟩ := enumD_get hx
    obtain ⟨vs, q1, q2⟩ := lsLater h p e r g
    obtain ⟨v, q3, _⟩ := q2.get z1
    exact ⟨vs, v, q1, q3⟩
  · obtain ⟨vs, q1, q2⟩ := lsLater h p e r g
    rw [enumD_len] at hl
    exact ⟨vs, q1, by rw [← q2.length]; omega⟩
  · obtain ⟨x1, z1, rfl⟩ := enumD_get hx
    obtain ⟨vs, q1, q2⟩ := lsLater h p e r g
    obtain ⟨w, q3, q4⟩ := q2.get z1
    obtain ⟨T, b1, rfl, nT, rfl, f1⟩ := hy
    have w1' := f1 vs q1
    rw [q3] at w1'
    cases w1'
    rw [Nat.zero_add]
    exact pair_new r nT (.int _) q4
theorem repK_get {F : Wd} {H : Hp} {M : Mp} : ∀ {ds : List (Key × D)} {vs : List (Key × V)} {i : Nat} {p : Key × D}, RepK F H M ds vs → ds[i]? = some p → ∃ v, vs[i]? = some (p.1, v) ∧ Rep F H M p.2 v
  | _, _, _, _, .nil, e => by simp at e
  | _, _, 0, _, .cons h _, e => by simp at e; subst e; exact ⟨_, rfl, h⟩
  | _, _, i + 1, p, .cons _ r, e => by
    obtain ⟨v, h1, h2⟩ := repK_get (i := i) (p := p) r (by simpa using e)
    exact ⟨v, by simpa using h1, h2⟩
theorem kDD_rep {F : Wd} {H : Hp} {M : Mp} (k : Key) : Rep F H M (kDD k) (kV k) := by
  cases k with
  | inl i => exact .int i
  | inr x => exact .str x
theorem it_items {ds : List (Key × D)} {kvs : List (Key × V)} {a : Addr} {o : Obj} (h1 : H0 a = some (.frz o (.dK kvs))) (h2 : M0 a = none) (hp : ¬ P0 a) (h3 : RepK (wd X an0 P0) H0 M0 ds kvs) :
    ItRep X P0 H0 M0 (Iti a o kvs) (ds.map fun p => .tup [kDD p.1, p.2]) (fun _ => True) := by
  refine ⟨fun i an P H M x e r g hx => ?_, fun i an P H M e r g hl => ?_, fun i an P H M x v H' e r g hx hy => ?_⟩
  · have hi := (List.getElem?_eq_some_iff.mp hx).1
    rw [List.length_map, h3.length] at hi
    exact ⟨(e.keep _ _ hp h2 h1).1, hi⟩
  · rw [List.length_map, h3.length] at hl
    exact ⟨(e.keep _ _ hp h2 h1).1, by omega⟩
  · rw [List.getElem?_map] at hx
    cases z : ds[i]? with
    | none => rw [z] at hx; cases hx
    | some p =>
      rw [z] at hx; cases hx
      obtain ⟨w, q1, q2⟩ := repK_get (h3.extW (an' := an) e) z
      obtain ⟨T, k, v', b1, rfl, nT, rfl⟩ := hy
      rw [q1] at b1
      cases b1
      exact pair_new r nT (kDD_rep _) q2
theorem it_keys {ds : List (Key × D)} {kvs : List (Key × V)} {a : Addr} {o : Obj} (h1 : H0 a = some (.frz o (.dK kvs))) (h2 : M0 a = none) (hp : ¬ P0 a) (h3 : RepK (wd X an0 P0) H0 M0 ds kvs) :
    ItRep X P0 H0 M0 (Itk a o kvs) (ds.map fun p => kDD p.1) (fun _ => True) := by
  refine ⟨fun i an P H M x e r g hx => ?_, fun i an P H M e r g hl => ?_, fun i an P H M x v H' e r g hx hy => ?_⟩
  · have hi := (List.getElem?_eq_some_iff.mp hx).1
    rw [List.length_map, h3.length] at hi
    exact ⟨(e.keep _ _ hp h2 h1).1, hi⟩
  · rw [List.length_map, h3.length] at hl
    exact ⟨(e.keep _ _ hp h2 h1).1, by omega⟩
  · rw [List.getElem?_map] at hx
    cases z : ds[i]? with
    | none => rw [z] at hx; cases hx
    | some p =>
      rw [z] at hx; cases hx
      obtain ⟨w, q1, q2⟩ := repK_get (h3.extW (an' := an) e) z
      obtain ⟨rfl, k, v', b1, rfl⟩ := hy
      rw [q1] at b1
      cases b1
      exact ⟨.refl, r, kDD_rep _⟩
theorem it_str {z : Str} : ItRep X P0 H0 M0 (Its z) (z.cps.toList.map fun c => .str ⟨#[c]⟩) (fun _ => True) := by
  refine ⟨fun i an P H M x e r g hx => ?_, fun i an P H M e r g hl => ?_, fun i an P H M x v H' e r g hx hy => ?_⟩
  · have hi := (List.getElem?_eq_some_iff.mp hx).1
    rw [List.length_map, Array.length_toList] at hi
    exact hi
  · rw [List.length_map, Array.length_toList] at hl
    show z.cps.size ≤ i
    omega
  · obtain ⟨rfl, c, q1, rfl⟩ := hy
    rw [List.getElem?_map, Array.getElem?_toList, q1] at hx
    cases hx
    exact ⟨.refl, r, .str _⟩
/-- list or tuple -/
def iSeqB (X : Cx) (te : TE) : TI := fun σ H R => te σ H fun x H1 => (∃ a vs, x = .ref a ∧ SqL X.K H1 a vs ∧ R (Itl X.K a) H1) ∨ ∃ a vs, x = .ref a ∧ SqT X.K H1 a vs ∧ R (Itt X.K a) H1
theorem pi_seqB {tg l : Expr} {tl : TE} (hl : PE X l tl) : PI X tg l (iSeqB X tl) := by
  refine ⟨fun pins s σ H R I h => ?_⟩
  refine thn (hl.run pins s σ H _ I h) fun v s1 ⟨x, H1, I1, r1, q1⟩ => ?_
  rcases q1 with ⟨a, xs, e, hq, q⟩ | ⟨a, xs, e, hq, q⟩
  · subst e
    cases r1
    obtain ⟨its, rv, p, hz⟩ := I1.list hq
    refine wpAny_pyIter_list p.isList ?_
    refine ⟨s1.heap.objs.size, [s1.heap.objs.size], _, _, H1, rfl, I1.kept (t' := s1.toks) fun b o e => Heap.get?_push_of_some _ e, turn_list a _, ⟨_, Heap.get?_push_size _ rfl, rfl, rfl⟩, fun b hb => ?_, q⟩
    have e : b = s1.heap.objs.size := by simpa using hb
    subst e
    exact I1.fpOk (Nat.le_refl _) (I1.hok.fresh (Nat.le_refl _))
  · subst e
    cases r1
    obtain ⟨its, rv, p, hz⟩ := I1.tuple hq
    refine wpAny_pyIter_tuple (show s1.heap.IsTuple a its.toArray from p) ?_
    refine ⟨s1.heap.objs.size, [s1.heap.objs.size], _, _, H1, rfl, I1.kept (t' := s1.toks) fun b o e => Heap.get?_push_of_some _ e, turn_tuple a _, ⟨_, Heap.get?_push_size _ rfl, rfl, rfl⟩, fun b hb => ?_, q⟩
    have e : b = s1.heap.objs.size := by simpa using hb
    subst e
    exact I1.fpOk (Nat.le_refl _) (I1.hok.fresh (Nat.le_refl _))
theorem PI.imp {tg e : Expr} {t t' : TI} (h : PI X tg e t) (q : ∀ σ H R, t' σ H R → t σ H R) : PI X tg e t' := ⟨fun pins s σ H R I w => h.run pins s σ H R I (q σ H R w)⟩
end
end DS

/-! DS7: expressions keep their word -/
namespace DS
open PySem PySem.Spec PyProof.Rows L2

def bnames : List Str := ["len", "all", "any", "sum", "abs", "max", "min", "sorted", "int", "tuple", "list", "str", "bool", "dict", "isinstance", "range", "zip", "enumerate"]
/-- what is wanted of an exception, over data -/
def liftX (X : Cx) (an : An) (W : XW) : WX := fun cls dd σ H => ∃ P x ρ M, RepE (wd X an P) H M ρ σ ∧ RelH (wd X an P) H M ∧ RepX (wd X an P) H M x cls dd ∧ W x ρ M
/-- a def with its promise -/
structure FnD (X : Cx) (n : Nat) (sp : SpD) (j : Nat) (f : Addr) : Prop where
  ok : ∃ k fd ps, FnOk X.prog X.w X.K X.mg X.base (L2.CX X.prog X.w) k f fd ps (liftSp X.K X.mg n sp) ∧ Room (k + j) X.A ∧ Binds X.K fd ps []
  kp : PySem.W.keepIn X.K (.ref f) = true
/-- an own exception class over ValueError, without fields -/
structure ExcA (X : Cx) (k : Str) (C : Addr) : Prop where
  g : X.mg k = some (.ref C)
  x : PySem.W.excIn X.K C [.type "ValueError", .type "Exception", .type "BaseException", .type "object"] "ValueError.__new__" = true
  kp : PySem.W.keepIn X.K (.ref C) = true
  sb : PySem.W.subIn X.K (.ref C) (.type "BaseException") = some true
  ty : PySem.W.typeIn X.K (.ref C) = some (.type "type")
def ExcF (X : Cx) (k : Str) (fs : List Str) : Prop := (fs = [] ∧ ∃ C, ExcA X k C)
/-- a class that an except clause or isinstance names -/
def ClsN (X : Cx) (k : Str) (cv : Value) : Prop := (∃ C, cv = .ref C ∧ X.mg k = some (.ref C)) ∨ ∃ T, cv = .type T ∧ X.mg k = none ∧ bootBuiltins k = some (.type T) ∧ k ≠ "__name__"
/-- the exception that the suite holds -/
structure Held (X : Cx) (an : An) (a : Addr) (x : XD) : Prop where
  ex : ∃ (X0 : Cx) (oe : Obj) (pn : List (Addr × Obj)) (C : Addr) (d : Option Addr), X = X0.suite a ((a, oe) :: pn) ∧ X.mg x.1 = some (.ref C) ∧ Zc (.ref C) d oe ∧ (∃ vs, oe.data = .fields vs) ∧ (x.2 = [] → d = none) ∧
    ∀ P H M, RelH (wd X an P) H M → x.2 ≠ [] → ∃ dd vs, d = some dd ∧ H dd = some (.xd vs) ∧ ∀ f e, x.2.lookup f = some e → ∃ v, vs.lookup f = some v ∧ Rep (wd X an P) H M e v
structure Good (G : Gam) (an : An) (W : XW) (c : CT) (X : Cx) : Prop where
  N : X.N = c.N
  sc : X.env.scope = c.sc
  ws : ∀ x, c.ws.names.lookup x = some .local ∨ c.ws.names.lookup x = some .cell → Loc X.env.scope x ∧ (X.fn x = true ∨ X.env.scope.names.lookup x = some .local)
  nd : X.N.Nodup
  units : X.A.units + 65 < cLine
  calm : c.hot = false → X.calm = true
  room : c.hot = false → ∃ k, Room k X.A
  blt : ∀ x ∈ bnames, X.mg x = none
  cst : ∀ i x d, nth c.cst i = some x → nth G.cst i = some d → ∃ v u, X.mg x = some u ∧ RelV v u ∧ ∀ an P H M, Rep (wd X an P) H M d v
  fn : c.hot = false → ∀ i x n sp, nth c.fn i = some x → nth G.fn i = some (n, sp) → ∃ f, X.mg x = some (.ref f) ∧ FnD X n sp 0 f
  mt : c.hot = false → ∀ i k m k' m' n sp, nth c.mt i = some (k', m') → nth G.mt i = some (k, m, n, sp) → k' = k ∧ m' = m ∧ ∃ C f, X.mg k = some (.ref C) ∧ Cls X.K C ∧ Meth X.K C m f ∧ FnD X n sp 1 f ∧ (m = "__init__" → Mk X.K C f)
  fl : ∀ k f, (k, f) ∈ G.fl → ∃ C, X.mg k = some (.ref C) ∧ Cls X.K C ∧ NoAttr X.K C f
  exc : ∀ i k k' fs, nth c.exc i = some k' → nth G.exc i = some (k, fs) → k' = k ∧ ExcF X k fs
  tk : c.hot = false → Takes X (liftX X an W)
  sub : ∀ k ∈ c.hn, ∃ cv, ClsN X k cv ∧ ∀ x ks, G.sub.lookup x = some ks → ∀ C, X.mg x = some (.ref C) → PySem.W.exmOne X.K (.ref C) cv = some (decide (k ∈ ks)) ∧ PySem.W.kitOne X.K (.ref C) cv = some (decide (k ∈ ks))
  xf : ∀ k f, (k, f) ∈ G.xf → ∃ C, X.mg k = some (.ref C) ∧ XfC X.K C ∧ PySem.W.findIn X.K (.ref C) f = some none
  xi : ∀ k ∈ G.xi, ∃ C, X.mg k = some (.ref C) ∧ ExcC X.K C
  cur : ∀ a x, G.cur = some (a, x) → c.hot = true → Held X an a x
  fr : c.top = true → X.stack = X.env :: X.outer ∧ X.env.frame = some X.env.locals
section
variable {G : Gam} {an : An} {W : XW} {c : CT} {X : Cx}
theorem gl_of (g : Good G an W c X) {x : Str} (h : glB c x = true) : Gl X x ∧ (x == ("__debug__" : Str)) = false := by
  unfold glB at h
  simp only [Bool.and_eq_true, decide_eq_true_eq, Bool.not_eq_true'] at h
  refine ⟨?_, h.2⟩
  show X.env.scope.names.lookup x = _
  rw [g.sc]; exact h.1
theorem vis_of (g : Good G an W c X) {i : Nat} {x : Str} (h : visB c i x = true) : X.N[i]? = some x ∧ Vis X.env.scope x ∧ (x == ("__debug__" : Str)) = false ∧ (x == ("__classdict__" : Str)) = false := by
  unfold visB at h
  simp only [Bool.and_eq_true, decide_eq_true_eq, Bool.not_eq_true'] at h
  obtain ⟨⟨⟨h1, h2⟩, h3⟩, h4⟩ := h
  refine ⟨by rw [g.N]; exact h1, ?_, h3, h4⟩
  unfold Vis
  rw [g.sc]
  split at h2
  · rename_i e; exact .inl e
  · rename_i e; exact .inr (.inl e)
  · rename_i e; exact .inr (.inr e)
  · cases h2
theorem wr_of (g : Good G an W c X) {i : Nat} {x : Str} (h : wrB c i x = true) : X.N[i]? = some x ∧ Loc X.env.scope x ∧ (X.fn x = true ∨ X.env.scope.names.lookup x = some .local) := by
  unfold wrB at h
  simp only [Bool.and_eq_true, decide_eq_true_eq] at h
  refine ⟨by rw [g.N]; exact h.1, g.ws x ?_⟩
  have h2 := h.2
  split at h2
  · rename_i e; exact .inl e
  · rename_i e; exact .inr e
  · cases h2
theorem slot_get : ∀ {ρ : Env1} {i : Nat} {d : D}, slot ρ i = some d → ρ[i]? = some (some d)
  | [], _, _, h => by cases h
  | x :: r, 0, d, h => by
    have h' : x = some d := h
    simp [h']
  | x :: r, i + 1, d, h => by
    have h' : slot r i = some d := h
    simpa using slot_get h'
theorem star_of {e : Expr} {es : List Expr} {env : Env} (h : (!isStar e) = true) : starEach (e :: es) env = (false, eval e env) :: starEach es env := by
  cases e <;> first | rfl | (exact (Bool.false_ne_true h).elim)
theorem stars_none {env : Env} {pos : Pos} : ∀ {es : List Expr}, noStars es = true → (backTo pos (starEach es env)).any (·.1) = false
  | [], _ => rfl
  | e :: es, h => by
    unfold noStars at h
    rw [Bool.and_eq_true] at h
    rw [star_of h.1]
    show (false || (backTo pos (starEach es env)).any (·.1)) = false
    rw [stars_none h.2]; rfl
theorem chkL_stars : ∀ {c : CT} {es : EL} {fs : List Expr}, chkL c es fs = true → noStars fs = true
  | c, .nil, fs, h => by
    cases fs with
    | nil => rfl
    | cons _ _ => cases h
  | c, .cons e es, fs, h => by
    cases fs with
    | nil => cases h
    | cons f fs =>
      unfold chkL at h
      simp only [Bool.and_eq_true] at h
      unfold noStars
      rw [h.1.2, chkL_stars h.2]; rfl
theorem base_of {e : Expr} {f : Str} {env : Env} {w : Sem Value} (h : (!isCall0 e) = true) : attributeBase e f env w = w := by
  unfold attributeBase
  split
  · exact (Bool.false_ne_true h).elim
  · rfl
theorem marks_of {op : CmpOp} {e : Expr} (h : (!isSet e) = true) : behindInMarks op e = false := by
  cases e <;> first | rfl | (exact (Bool.false_ne_true h).elim)
theorem folded_of {e : Expr} {env : Env} {x : Value} (h : (!isSet e) = true) : foldedSetIterable e env x = pure x := by
  cases e <;> first | rfl | (exact (Bool.false_ne_true h).elim)
theorem plainIx_of {e : Expr} (h : (!isSlice e) = true) : PlainIx e := by
  intro o i
  cases e <;> first | rfl | (exact (Bool.false_ne_true h).elim)
theorem assign_sub {o i : Expr} {pos : Pos} {env : Env} (h : (!isSlice i) = true) : ∀ v, assign (.Subscript o i pos) env v = (do
      let ov ← holding [v] (eval o env)
      let iv ← holding [v, ov] (eval i env)
      standAt pos
      holding [v, ov, iv] (setItem ov iv v)
      release [v, ov, iv] []) := by
  intro v
  cases i <;> first | rfl | (exact (Bool.false_ne_true h).elim)
end
end DS

/-! DS8: calls whose exceptions are wished for at the caller's slots -/
namespace DS
open PySem PySem.Spec PyProof.Rows L2
section
variable {X : Cx} {CX : CXT} {k : Nat} {f C : Addr} {fd : FuncData} {ps : List Str} {sp : Sp} {E : L2.St → XK} {x m : Str} {p pos apos : Pos} {e o : Expr} {es : List Expr} {ta : TE} {t : TA}
theorem pe_callS0 (F : FnOk X.prog X.w X.K X.mg X.base CX k f fd ps sp) (hr : Room k X.A) (hg : Gl X x) (hm : X.mg x = some (.ref f)) (hk : PySem.W.keepIn X.K (.ref f) = true) (hb : Binds X.K fd ps []) (hx : ∀ σ, PassesAt CX X σ (E σ))
    (hdb : (x == ("__debug__" : Str)) = false) : PE X (.Call (.Name x p) [] [] pos) (tCallS sp E tNil) := by
  refine ⟨fun pins s σ H Q I h => ?_⟩
  refine wpAny_Call_Name_kw (ld_glob I hg hm ?_ hdb)
  exact PySem.W.callWith_K0 I.kIn hk (run_fnS (us := []) F hr hb (hx σ) I .nil h)
def tMethS (C : Addr) (m : Str) (sp : Sp) (E : L2.St → XK) (ta : TE) (t : TA) : TE := fun σ H Q => ta σ H fun x H1 => ∃ a dx fs, x = .ref a ∧ H1 a = some (.ins C dx fs) ∧ fs.lookup m = none ∧
  t σ H1 fun vs H2 => sp (x :: vs) H2 Q (E σ)
theorem pe_methS {pl : Sem Bool} (he : PE X o ta) (c : Cls X.K C) (hm : Meth X.K C m f) (F : FnOk X.prog X.w X.K X.mg X.base CX k f fd ps sp) (hr : Room k X.A) (hb : Binds X.K fd ps []) (hx : ∀ σ, PassesAt CX X σ (E σ)) (ha : PA X (e :: es) t)
    (hst : starEach (e :: es) X.env = (false, eval e X.env) :: starEach es X.env) (hpl : (backTo pos (starEach es X.env)).any (·.1) = false)
    (ht : eval (.Call (.Attribute o m apos) (e :: es) [] pos) X.env = (do
      let ov ← eval o X.env
      standAt apos.atName
      let (f, first) ← holding [ov] (getMethod ov m pl)
      callWith pos f first (backTo pos (starEach (e :: es) X.env)) (backToKw pos (keywordEach [] X.env)))) :
    PE X (.Call (.Attribute o m apos) (e :: es) [] pos) (tMethS C m sp E ta t) := by
  refine ⟨fun pins s σ H Q I h => ?_⟩
  refine PySem.W.methodCall_KW (pl := pl) (thn (he.run pins s σ H _ I h) fun u s1 ⟨x, H1, I1, rx, a, dx, fs, ex, ea, l, q⟩ => ?_) ht
  subst ex
  obtain rfl : u = Value.ref a := rx
  refine getmeth_ok I1 ea c hm l ?_
  refine PySem.W.callWith_K (first := [.ref a]) (h₀ := X.base) I.ok.mod.kin hm.kp (thn (ha.run pos pins s1 σ H1 _ I1 q) fun us s2 ⟨vs, H2, I2, r, q2⟩ => ⟨I2.kIn, ?_⟩) hst hpl
  exact run_fnS (us := .ref a :: us) (vs := .ref a :: vs) F hr hb (hx σ) I2 (.cons rfl r) q2
theorem pe_methS0 {pl : Sem Bool} (he : PE X o ta) (c : Cls X.K C) (hm : Meth X.K C m f) (F : FnOk X.prog X.w X.K X.mg X.base CX k f fd ps sp) (hr : Room k X.A) (hb : Binds X.K fd ps []) (hx : ∀ σ, PassesAt CX X σ (E σ))
    (ht : eval (.Call (.Attribute o m apos) [] [] pos) X.env = (do
      let ov ← eval o X.env
      standAt apos.atName
      let (f, first) ← holding [ov] (getMethod ov m pl)
      callWith pos f first (backTo pos (starEach [] X.env)) (backToKw pos (keywordEach [] X.env)))) :
    PE X (.Call (.Attribute o m apos) [] [] pos) (tMethS C m sp E ta tNil) := by
  refine ⟨fun pins s σ H Q I h => ?_⟩
  refine PySem.W.methodCall_KW (pl := pl) (thn (he.run pins s σ H _ I h) fun u s1 ⟨x, H1, I1, rx, a, dx, fs, ex, ea, l, q⟩ => ?_) ht
  subst ex
  obtain rfl : u = Value.ref a := rx
  refine getmeth_ok I1 ea c hm l ?_
  exact PySem.W.callWith_K0 (first := [.ref a]) I1.kIn hm.kp (run_fnS (us := [.ref a]) (vs := [.ref a]) F hr hb (hx σ) I1 (.cons rfl .nil) q)
def tMakeS (C : Addr) (sp : Sp) (E : L2.St → XK) (t : TA) : TE := fun σ H Q => t σ H fun vs H1 => ∀ x dx, H1 x = none → H1 dx = none → dx ≠ x →
  sp (.ref x :: vs) (upd (upd H1 dx (.own x)) x (.ins C dx [])) (fun v H2 => v = .non ∧ Q (.ref x) H2) (E σ)
theorem run_makeS {pins : List (Addr × Obj)} {σ : L2.St} {H : Hp} {s : Shared} {Q : VK} {us : List Value} {vs : List V} {E : XK} (M : Mk X.K C f) (F : FnOk X.prog X.w X.K X.mg X.base CX k f fd ps sp) (hr : Room (k + 1) X.A) (hb : Binds X.K fd ps [])
    (hx : PassesAt CX X σ E) (I : Inv X pins σ H s) (r : Vals vs us)
    (h : ∀ x dx, H x = none → H dx = none → dx ≠ x → sp (.ref x :: vs) (upd (upd H dx (.own x)) x (.ins C dx [])) (fun v H2 => v = .non ∧ Q (.ref x) H2) E) :
    wpAny (model X.prog X.w) X.A (call (.ref C) us) (EP X pins σ Q) X.xe s := by
  have hq := h (s.heap.objs.size + 1) s.heap.objs.size (I.hok.fresh (Nat.le_succ _)) (I.hok.fresh (Nat.le_refl _)) (Nat.ne_of_lt (Nat.lt_succ_self _))
  have I2 := Inv.made (C := C) I
  have r2 : Vals (V.ref (s.heap.objs.size + 1) :: vs) (Value.ref (s.heap.objs.size + 1) :: us) := .cons rfl r
  have hl : ((Value.ref (s.heap.objs.size + 1) :: us) ++ []).length = ps.length := by
    have e := r2.length
    rw [F.len _ _ _ _ hq] at e
    rw [List.append_nil]
    exact e.symm
  refine wpAny_call (make_map (f := f) I.kIn M.makes M.init (beq_iff_eq.mp M.fn) (codeAny_mono (F.run _ X.stack _ _ ⟨Value.ref (s.heap.objs.size + 1) :: us, []⟩ ((Value.ref (s.heap.objs.size + 1) :: us) ++ []) _ _ E ((hr.make C us []).mono (Nat.le_refl _))
    (I2.env0.make C us []) (hb _ (Value.ref (s.heap.objs.size + 1) :: us) I2.kIn hl) (by rw [List.append_nil]; exact r2) hq) fun r s' hq' => ?_))
  cases r with
  | error e => exact hx pins _ _ e s' I2 hq'
  | ok fl =>
    cases fl with
    | ret u =>
      obtain ⟨v, H', I3, rv, ev, q3⟩ := I2.after hq'
      subst ev
      exact ⟨rv, ⟨V.ref (s.heap.objs.size + 1), H', I3, rfl, q3⟩⟩
    | next => exact False.elim hq'
    | brk => exact False.elim hq'
    | cont => exact False.elim hq'
theorem pe_makeS (M : Mk X.K C f) (F : FnOk X.prog X.w X.K X.mg X.base CX k f fd ps sp) (hr : Room (k + 1) X.A) (hg : Gl X x) (hm : X.mg x = some (.ref C)) (hb : Binds X.K fd ps []) (hx : ∀ σ, PassesAt CX X σ (E σ))
    (ha : PA X (e :: es) t) (hdb : (x == ("__debug__" : Str)) = false) (he : starEach (e :: es) X.env = (false, eval e X.env) :: starEach es X.env) (hpl : (backTo pos (starEach es X.env)).any (·.1) = false) :
    PE X (.Call (.Name x p) (e :: es) [] pos) (tMakeS C sp E t) := by
  refine ⟨fun pins s σ H Q I h => ?_⟩
  refine wpAny_Call_Name_kw (ld_glob I hg hm ?_ hdb)
  refine PySem.W.callWith_K (h₀ := X.base) I.ok.mod.kin M.kp (thn (ha.run pos pins s σ H _ I h) fun us s1 ⟨vs, H1, I1, r, q⟩ => ⟨I1.kIn, ?_⟩) he hpl
  exact run_makeS M F hr hb (hx σ) I1 r q
theorem pe_makeS0 (M : Mk X.K C f) (F : FnOk X.prog X.w X.K X.mg X.base CX k f fd ps sp) (hr : Room (k + 1) X.A) (hg : Gl X x) (hm : X.mg x = some (.ref C)) (hb : Binds X.K fd ps []) (hx : ∀ σ, PassesAt CX X σ (E σ))
    (hdb : (x == ("__debug__" : Str)) = false) : PE X (.Call (.Name x p) [] [] pos) (tMakeS C sp E tNil) := by
  refine ⟨fun pins s σ H Q I h => ?_⟩
  refine wpAny_Call_Name_kw (ld_glob I hg hm ?_ hdb)
  exact PySem.W.callWith_K0 I.kIn M.kp (run_makeS (us := []) M F hr hb (hx σ) I .nil h)
end
end DS

/-! DS9: side facts of the sound translation -/
namespace DS
open PySem PySem.Spec PyProof.Rows L2
theorem and_split {a b : Bool} (h : (a && b) = true) : a = true ∧ b = true := Bool.and_eq_true_iff.mp h
theorem not_of_not {b : Bool} (h : (!b) = true) : b = false := by cases b <;> first | rfl | cases h
theorem noStars_all {env : Env} {pos : Pos} : ∀ {es : List Expr}, noStars es = true → (backTo pos (starEach es env)).all (fun x => !x.1) = true
  | [], _ => rfl
  | e :: es, h => by
    unfold noStars at h
    rw [Bool.and_eq_true] at h
    rw [star_of h.1]
    show (true && (backTo pos (starEach es env)).all (fun x => !x.1)) = true
    rw [noStars_all h.2]; rfl
theorem form_of {env : Env} {pos : Pos} {es : List Expr} (h : noStars es = true) (hn : es.length < 20) : methodCallForm (es.length + ([] : List Keyword).length) (backTo pos (starEach es env)) (backToKw pos (keywordEach [] env)) = true := by
  unfold methodCallForm
  rw [noStars_all h]
  show (true && true && decide (es.length + 0 + 0 < 30)) = true
  rw [Bool.true_and, Bool.true_and, decide_eq_true_eq]
  omega
theorem call_form {o : Expr} {m : Str} {apos pos : Pos} {es : List Expr} {env : Env} (h0 : (!isCall0 o) = true) (hs : noStars es = true) (hl : (apos.endLine == pos.line) = true) (hn : es.length < 20) :
    eval (.Call (.Attribute o m apos) es [] pos) env = (do
      let ov ← eval o env
      standAt apos.atName
      let (f, first) ← holding [ov] (getMethod ov m (do return (← importBound o env).getD true))
      callWith pos f first (backTo pos (starEach es env)) (backToKw pos (keywordEach [] env))) := by
  show (do
    let ov ← attributeBase o m env (eval o env)
    standAt apos.atName
    methodCall o m apos pos env ov (es.length + ([] : List Keyword).length) (backTo pos (starEach es env)) (backToKw pos (keywordEach [] env))) = _
  rw [base_of h0]
  unfold methodCall calleeOf methodCallPos
  rw [form_of hs hn, hl]
  rfl
section
variable {G : Gam} {an : An} {W : XW} {c : CT} {X : Cx}
theorem Good.blk (g : Good G an W c X) (hh : c.hot = false) {s : Shared} {H : Hp} {scope : Scope} {C : Addr} {cl : List (Str × Addr)} {fp : List Addr} : Good G .top (fun _ _ _ => False) (blkCT c scope) (X.blk s H scope (compEnvC scope cl C X.env) fp) := by
  have hsc : relabel scope X.env = relS scope c.sc := by rw [← g.sc]; rfl
  refine ⟨g.N, hsc, fun x h => ?_, g.nd, g.units, g.calm, g.room, g.blt, g.cst, fun hh i x n sp e1 e => ?_, fun hh i k m k' m' n sp e1 e => ?_, g.fl, fun i k k' fs e1 e => ?_, fun _ u s' h => ?_, g.sub, g.xf, g.xi, fun a x e hz => ?_, fun z => ?_⟩
  · rcases h with h | h
    · have q : (relabel scope X.env).names.lookup x = some .local := lookup_relS_keep (by decide) h
      exact ⟨.inl q, .inr q⟩
    · have q : (relabel scope X.env).names.lookup x = some .cell := lookup_relS_keep (by decide) h
      exact ⟨.inr q, .inl (by show (scope.names.lookup x == some .cell) = true; rw [show scope.names.lookup x = some .cell from h]; rfl)⟩
  · obtain ⟨f, h1, h2⟩ := g.fn hh i x n sp e1 e
    exact ⟨f, h1, ⟨h2.ok, h2.kp⟩⟩
  · obtain ⟨z1, z2, C, f, h1, h2, h3, h4, h5⟩ := g.mt hh i k m k' m' n sp e1 e
    exact ⟨z1, z2, C, f, h1, h2, h3, ⟨h4.ok, h4.kp⟩, h5⟩
  · obtain ⟨z1, h1, C, h2⟩ := g.exc i k k' fs e1 e
    exact ⟨z1, h1, C, ⟨h2.g, h2.x, h2.kp, h2.sb, h2.ty⟩⟩
  · obtain ⟨_, _, _, _, _, _, _, _, _, _, _, _, _, _, _, _, _, _, _, _, _, _, _, z⟩ := h
    exact z.elim
  · rw [show (blkCT c scope).hot = c.hot from rfl, hh] at hz; cases hz
  · cases z
theorem wipe_set {i : Nat} {x : Option V} : ∀ {vs : List Nat} {σ : L2.St}, i ∈ vs → wipe (σ.set i x) vs = wipe σ vs
  | [], _, h => by cases h
  | v :: vs, σ, h => by
    show (wipe (σ.set i x) vs).set v none = (wipe σ vs).set v none
    by_cases hi : i ∈ vs
    · rw [wipe_set hi]
    · have e : i = v := by
        rcases List.mem_cons.mp h with q | q
        · exact q
        · exact absurd q hi
      subst e
      have go : ∀ (ws : List Nat), i ∉ ws → wipe (σ.set i x) ws = (wipe σ ws).set i x := by
        intro ws
        induction ws with
        | nil => intro _; rfl
        | cons w ws ih =>
          intro hw
          show (wipe (σ.set i x) ws).set w none = ((wipe σ ws).set w none).set i x
          rw [ih fun q => hw (List.mem_cons_of_mem _ q), List.set_comm _ _ (fun q => hw (by rw [q]; exact List.mem_cons_self))]
      rw [go vs hi, List.set_set]
theorem wipe_set_none : ∀ {vs : List Nat} {σ : L2.St} {v : Nat}, wipe (σ.set v none) vs = (wipe σ vs).set v none
  | [], _, _ => rfl
  | w :: vs, σ, v => by
    show (wipe (σ.set v none) vs).set w none = ((wipe σ vs).set w none).set v none
    rw [wipe_set_none]
    by_cases e : v = w
    · subst e; rfl
    · rw [List.set_comm _ _ e]
theorem wipe_idem : ∀ {vs : List Nat} {σ : L2.St}, wipe (wipe σ vs) vs = wipe σ vs
  | [], _ => rfl
  | v :: vs, σ => by
    show (wipe ((wipe σ vs).set v none) vs).set v none = (wipe σ vs).set v none
    rw [wipe_set_none, wipe_idem, List.set_set]
end
/-- a target of names alone, all of them among vs -/
def gW (X : Cx) (an : An) (vs : List Nat) (b : TGD) : TG := fun v σ H Q => ∃ P d ρ M RD, Rep (wd X an P) H M d v ∧ RepE (wd X an P) H M ρ σ ∧ RelH (wd X an P) H M ∧ b d ρ M RD ∧
  ∀ ρ' M', RD ρ' M' → ∀ σ' H', wipe σ' vs = wipe σ vs → Ext H M H' M' → RelH (wd X an P) H' M' → RepE (wd X an P) H' M' ρ' σ' → Q σ' H'
def gWs (X : Cx) (an : An) (vs : List Nat) (b : List D → Env1 → Mp → (Env1 → Mp → Prop) → Prop) : TGs := fun us σ H Q => ∃ P ds ρ M RD, Reps (wd X an P) H M ds us ∧ RepE (wd X an P) H M ρ σ ∧ RelH (wd X an P) H M ∧ b ds ρ M RD ∧
  ∀ ρ' M', RD ρ' M' → ∀ σ' H', wipe σ' vs = wipe σ vs → Ext H M H' M' → RelH (wd X an P) H' M' → RepE (wd X an P) H' M' ρ' σ' → Q σ' H'
theorem assignEach_len {env : Env} : ∀ {es : List Expr}, noStars es = true → (assignEach es env).length = es.length ∧ (assignEach es env).findIdx? (·.1) = none ∧ (assignEach es env).map (·.2) = es.map fun e => assign e env
  | [], _ => ⟨rfl, rfl, rfl⟩
  | e :: es, h => by
    unfold noStars at h
    rw [Bool.and_eq_true] at h
    have q : assignEach (e :: es) env = (false, assign e env) :: assignEach es env := by
      have h1 := h.1
      cases e <;> first | rfl | (exact (Bool.false_ne_true h1).elim)
    obtain ⟨a, b, d⟩ := assignEach_len (env := env) h.2
    rw [q]
    refine ⟨by simp [a], ?_, by simp [d]⟩
    rw [List.findIdx?_cons, b]; rfl
theorem assignEach_cons {e : Expr} {es : List Expr} {env : Env} (h : (!isStar e) = true) : (assignEach (e :: es) env).map (·.2) = assign e env :: (assignEach es env).map (·.2) := by
  cases e <;> first | rfl | (exact (Bool.false_ne_true h).elim)
theorem chkTL_stars : ∀ {c : CT} {ts : TGL} {fs : List Expr}, chkTL c ts fs = true → noStars fs = true
  | c, .nil, fs, h => by
    cases fs with
    | nil => rfl
    | cons _ _ => cases h
  | c, .cons e es, fs, h => by
    cases fs with
    | nil => cases h
    | cons f fs =>
      unfold chkTL at h
      simp only [Bool.and_eq_true] at h
      unfold noStars
      rw [h.1.2, chkTL_stars h.2]; rfl
theorem chkTL_len : ∀ {c : CT} {ts : TGL} {fs : List Expr}, chkTL c ts fs = true → fs.length = tgLen ts
  | c, .nil, fs, h => by
    cases fs with
    | nil => rfl
    | cons _ _ => cases h
  | c, .cons t ts, fs, h => by
    cases fs with
    | nil => cases h
    | cons f fs =>
      unfold chkTL at h
      simp only [Bool.and_eq_true] at h
      show fs.length + 1 = tgLen ts + 1
      rw [chkTL_len h.2]
mutual
theorem sndTW {G : Gam} {an : An} {W : XW} {vs : List Nat} : ∀ (t : TG1) {c : CT} {X : Cx} {e : Expr}, Good G an W c X → chkT c t e = true → namesT vs t = true → PG X e (gW X an vs (bindT G W t))
  | .v i, c, X, e, g, h, n => by
    unfold chkT at h
    split at h
    · obtain ⟨h1, h2, h3⟩ := wr_of g h
      refine ⟨fun pins s σ H v u Q I r hq => ?_⟩
      obtain ⟨P, d, ρ, M, RD, pd, hE, hR, b, k⟩ := hq
      have hi : i ∈ vs := of_decide_eq_true n
      exact (pg_name g.nd h1 h2 h3).run pins s σ H v u Q I r (k _ _ b _ _ (wipe_set hi) .refl hR (hE.set pd))
    · cases h
  | .tup ts, c, X, e, g, h, n => by
    unfold chkT at h
    split at h
    · obtain ⟨h, hh⟩ := and_split h
      have hh := not_of_not hh
      have hs := chkTL_stars h
      obtain ⟨a1, a2, _⟩ := assignEach_len (env := X.env) hs
      refine ⟨fun pins s σ H v u Q I r hq => ?_⟩
      obtain ⟨P, d, ρ, M, RD, pd, hE, hR, b, k⟩ := hq
      unfold bindT at b
      split at b
      · cases pd with
        | tup p1 p2 =>
          exact (pg_tup (g.calm hh) (sndTLW ts g h n) a1 a2).run pins s σ H _ u Q I r ⟨_, _, rfl, p1, by rw [← p2.length, chkTL_len h]; exact b.1, P, _, ρ, M, _, p2, hE, hR, b.2, k⟩
      · exact b.elim
    · cases h
  | .sub _ _, _, _, _, _, _, n => by cases n
  | .att _ _, _, _, _, _, _, n => by cases n
theorem sndTLW {G : Gam} {an : An} {W : XW} {vs : List Nat} : ∀ (ts : TGL) {c : CT} {X : Cx} {es : List Expr}, Good G an W c X → chkTL c ts es = true → namesTL vs ts = true → PGs X es (gWs X an vs (bindL G W ts))
  | .nil, c, X, es, g, h, n => by
    cases es with
    | nil =>
      refine ⟨fun pins s σ H us uu Q I r hq => ?_⟩
      obtain ⟨P, ds, ρ, M, RD, pd, hE, hR, b, k⟩ := hq
      obtain ⟨rfl, b⟩ := b
      cases pd
      exact pgs_nil.run pins s σ H _ uu Q I r ⟨rfl, k _ _ b _ _ rfl .refl hR hE⟩
    | cons _ _ => cases h
  | .cons t ts, c, X, es, g, h, n => by
    cases es with
    | nil => cases h
    | cons e es =>
      unfold chkTL at h
      simp only [Bool.and_eq_true] at h
      unfold namesTL at n
      simp only [Bool.and_eq_true] at n
      obtain ⟨⟨h1, h2⟩, h3⟩ := h
      refine ⟨fun pins s σ H us uu Q I r hq => ?_⟩
      obtain ⟨P, ds, ρ, M, RD, pd, hE, hR, b, k⟩ := hq
      cases ds with
      | nil => exact b.elim
      | cons d ds =>
        cases pd with
        | cons p1 p2 =>
          refine (pgs_cons (sndTW t g h1 n.1) (sndTLW ts g h3 n.2) (assignEach_cons h2)).run pins s σ H _ uu Q I r ⟨_, _, rfl, P, d, ρ, M, _, p1, hE, hR, b, fun ρ1 M1 b1 σ1 H1 w1 e1 r1 E1 => ?_⟩
          exact ⟨P, ds, ρ1, M1, _, p2.ext e1, E1, r1, b1, fun ρ2 M2 b2 σ2 H2 w2 e2 r2 E2 => k _ _ b2 _ _ (w2.trans w1) (e1.trans e2) r2 E2⟩
end
end DS

/-! DS10: expressions keep their word -/
namespace DS
open PySem PySem.Spec PyProof.Rows L2
section
variable {X : Cx} {an : An}
theorem tOp_lift {ra rb : TD} {r2 : D → D → Mp → QE → Prop} : ∀ (σ : L2.St) (H : Hp) (Q : VK), lift X an (fun ρ M Q => ra ρ M fun x M1 => rb ρ M1 fun y M2 => r2 x y M2 Q) σ H Q → tOp (lift2 X an r2) (lift X an ra) (lift X an rb) σ H Q := by
  rintro σ H Q ⟨P, ρ, M, R, hE, hR, h, k⟩
  refine ⟨P, ρ, M, _, hE, hR, h, fun x M1 h1 v1 H1 e1 r1 p1 => ?_⟩
  refine ⟨P, ρ, M1, _, hE.ext e1, r1, h1, fun y M2 h2 v2 H2 e2 r2 p2 => ?_⟩
  exact ⟨P, x, y, M2, R, p1.ext e2, p2, r2, h2, fun d M' hd v H' e r p => k d M' hd v H' ((e1.trans e2).trans e) r p⟩
theorem tB_lift {r : TD} : ∀ (σ : L2.St) (H : Hp) (Q : Bool → Hp → Prop), liftT X an (fun ρ M Q => r ρ M fun d M1 => match d with
    | .bl b => Q b M1
    | _ => False) σ H Q → tB (lift X an r) σ H Q := by
  rintro σ H Q ⟨P, ρ, M, R, hE, hR, h, k⟩
  refine ⟨P, ρ, M, _, hE, hR, h, fun x M1 h1 v1 H1 e1 r1 p1 => ?_⟩
  cases p1 with
  | bl b => exact ⟨b, rfl, k b M1 h1 H1 e1 r1⟩
  | _ => exact h1.elim
theorem pt_of {e : Expr} {r : TD} (h : PE X e (lift X an r)) (he : ∀ whole, isTrue e X.env whole = (do let v ← whole; standAt e.pos; holding [v] (truthy v))) : PT X e (liftT X an (fun ρ M Q => r ρ M fun d M1 => match d with
    | .bl b => Q b M1
    | _ => False)) := PT.imp (pt_val h he) tB_lift
theorem tA_lift {r : TAD} {rn : List D → Mp → QE → Prop} : ∀ (σ : L2.St) (H : Hp) (Q : VK), lift X an (fun ρ M Q => r ρ M fun ds M1 => rn ds M1 Q) σ H Q → tCB (liftN X an rn) (liftA X an r) σ H Q := by
  rintro σ H Q ⟨P, ρ, M, R, hE, hR, h, k⟩
  refine ⟨P, ρ, M, _, hE, hR, h, fun ds M1 h1 vs H1 e1 r1 p1 => ?_⟩
  exact ⟨P, ds, M1, R, p1, r1, h1, fun d M' hd v H' e r p => k d M' hd v H' (e1.trans e) r p⟩
def liftO (X : Cx) (an : An) (r : Env1 → Mp → (Option Int → Mp → Prop) → Prop) : TO := fun σ H Q => ∃ P ρ M R, RepE (wd X an P) H M ρ σ ∧ RelH (wd X an P) H M ∧ r ρ M R ∧
  ∀ o M', R o M' → ∀ H', Ext H M H' M' → RelH (wd X an P) H' M' → Q o H'
def liftGs (X : Cx) (an : An) (b : List D → Env1 → Mp → (Env1 → Mp → Prop) → Prop) : TGs := fun us σ H Q => ∃ P ds ρ M RD, Reps (wd X an P) H M ds us ∧ RepE (wd X an P) H M ρ σ ∧ RelH (wd X an P) H M ∧ b ds ρ M RD ∧
  ∀ ρ' M', RD ρ' M' → ∀ σ' H', Ext H M H' M' → RelH (wd X an P) H' M' → RepE (wd X an P) H' M' ρ' σ' → Q σ' H'
/-- what a def hands back, from its promise over data -/
theorem sp_lift {P : Addr → Prop} {H0 H : Hp} {M0 M : Mp} {ρ : Env1} {σ : L2.St} {n : Nat} {sp : SpD} {W : XW} {ds : List D} {vs : List V} {R : QE} {Q : VK} (hl : ds.length = n) (hE : RepE (wd X an P) H M ρ σ) (hR : RelH (wd X an P) H M) (p : Reps (wd X an P) H M ds vs)
    (h : sp ds M R fun x M' => W x ρ M') (e0 : Ext H0 M0 H M) (k : Cont X an P H0 M0 R Q) : liftSp X.K X.mg n sp vs H Q (WE (liftX X an W) σ) :=
  ⟨P, an, ds, M, R, _, hl, p, hR, h, fun d M' hd v H' e r q => k d M' hd v H' (e0.trans e) r q, fun x M' hx cls dd H' e r q => ⟨P, x, ρ, M', hE.ext e, r, q, hx⟩⟩
theorem gwp_pin {tg e : Expr} : True := trivial
end
section
variable {G : Gam} {X : Cx} {an : An}
theorem ls_ty {P : Addr → Prop} {H : Hp} {M : Mp} {x : D} {v : V} (p : Rep (wd X an P) H M x v) (r : RelH (wd X an P) H M) (h : (lsOf M x).isSome = true) : tyV X.K "list" v H := by
  obtain ⟨ds, e⟩ := Option.isSome_iff_exists.mp h
  obtain ⟨a, vs, rfl, h1, _⟩ := lsRep p r e
  exact .inl ⟨rfl, _, h1⟩
theorem flds_rep {P : Addr → Prop} {H : Hp} {M : Mp} {x : D} {v : V} {c : Str} {fs : List (Str × D)} (p : Rep (wd X an P) H M x v) (r : RelH (wd X an P) H M) (h : flds M x = some (c, fs)) :
    ∃ a C dx vs, v = .ref a ∧ H a = some (.ins C dx vs) ∧ X.mg c = some (.ref C) ∧ RepF (wd X an P) H M fs vs := by
  cases p with
  | ins h1 h2 hp h3 h4 => cases h; exact ⟨_, _, _, _, rfl, h1, h3, h4⟩
  | ref a =>
    have h' : (match M a with | some (.ins c fs) => some (c, fs) | _ => none) = some (c, fs) := h
    split at h'
    · rename_i e
      cases h'
      obtain ⟨C, dx, vs, q1, q2, q3⟩ := r.ob _ _ e
      exact ⟨_, C, dx, vs, rfl, q1, q2, q3⟩
    · cases h'
  | _ => cases h
theorem Cls.of_mg {k : Str} {C C' : Addr} (h : X.mg k = some (.ref C)) (h' : X.mg k = some (.ref C')) : C = C' := by
  rw [h] at h'; cases h'; rfl
end
end DS

/-! DSX: list comprehensions whose tests and items let exceptions out -/
namespace DS
open PySem PySem.Spec PyProof.Rows L2
/-- the end of a comprehension's block, the frame of its variables known -/
def blkEnd (M : Model) (A : Around) (E : Value → Shared → Prop) (use : Option (Value → Sem Unit)) (Q : Value → Shared → Prop) (acc : Value) (C : Addr) (fr : Option Addr) (r : Result) (s' : Shared) : Prop :=
  match r with
  | .error x => ∃ m, s'.heap.Ns C m ∧ ∀ h', Heap.SameBut C s'.heap h' → ∀ e' : Env, e'.frame = fr → wpAny M A (passOn "comprehension.variables-let-go" x e' : Sem Value) (fun _ _ => False) E { s' with heap := h' }
  | .ok v => compPost M A E use Q acc C (.ok v) s'
section
variable {M : Model} {A : Around} {E : Value → Shared → Prop} {env : Env} {s : Shared}
theorem comp_own {e : Expr} {scope : Scope} {pos : Pos} {newAcc first : Sem Value} {g : Comprehension} {gs : List Comprehension} {cl : List (Str × Addr)} {use : Option (Value → Sem Unit)} {Q : Value → Shared → Prop}
    (c1 : clausesOf e = g :: gs) (c2 : ∀ x, foldedSetIterable g.iter env x = pure x) (c3 : closureFor scope env = pure cl)
    (c4 : scope.kind = .function) (c5 : ∀ x ∈ scope.names, x.2 = .local → scope.names.lookup x.1 = some .local)
    (w : wpAny M A first (fun x t1 => wpAny M A (pyIter x) (fun it t2 => wpAny M A newAcc (fun acc t3 =>
      wpAny M A (newFunctionEnv scope env.globals cl [] env.qual none .none (some env)) (fun cenv t4 =>
        codeAny M A (.compStart e 0 it acc { cenv with scope := relabel scope env }) (blkEnd M A E use Q acc cenv.locals cenv.frame) t4) E t3) E t2) E t1) E s) :
    wpAny M A (comprehension e scope env pos newAcc false first use) Q E s := by
  unfold comprehension
  rw [c3, c1]
  refine wpAny_bind (wpAny_mono w (fun x t1 w1 => ?_) fun _ _ z => z)
  refine wpAny_bind (wpAny_standAt (wpAny_bind (wpAny_of_eq (c2 x) (wpAny_bind (wpAny_holding (wpAny_mono w1 (fun it t2 w2 => ?_) fun _ _ z => z))))))
  refine wpAny_standIf (wpAny_bind (wpAny_mono w2 (fun acc t3 w3 => ?_) fun _ _ z => z))
  refine wpAny_bind (wpAny_pure (wpAny_bind (wpAny_mono w3 (fun cenv t4 w4 => ?_) fun _ _ z => z)))
  dsimp only
  have loc : ∀ {y : Str × NameKind}, y ∈ (scope.names.filter fun x => (x.2 == .local || x.2 == .cell) && x.1 != (".0" : Str)) → y.2 = .local → Env.kindOf { cenv with scope := relabel scope env } y.1 = some .local :=
    fun {y} hy hl => lookup_relabel_local (c5 y (List.mem_filter.mp hy).1 hl)
  refine wpAny_holding (wpAny_bind (wpAny_attempt (wpAny_holding (wpAny_run (codeAny_mono w4 fun r s' hr => ?_)))))
  cases r with
  | error x =>
    obtain ⟨m, hn, hr⟩ := hr
    refine wpAny_bind (wpAny_holding (wpAny_comp_letGo (cenv := { cenv with scope := relabel scope env }) c4 _ s' m (fun y hy => loc (List.mem_reverse.mp hy)) hn fun h' m' _ sb => ?_))
    exact wpAny_mono (hr h' sb { cenv with scope := relabel scope env } rfl) (fun _ _ f => f.elim) fun _ _ z => z
  | ok f =>
    cases use with
    | none =>
      obtain ⟨m, hn, hr⟩ := hr
      refine wpAny_bind (wpAny_holding (wpAny_comp_letGo (cenv := { cenv with scope := relabel scope env }) c4 _ s' m (fun y hy => loc (List.mem_reverse.mp hy)) hn fun h' m' _ sb => ?_))
      exact wpAny_pure (hr h' sb)
    | some u =>
      have hr : wpAny M A (u acc) _ E s' := hr
      refine wpAny_bind (wpAny_rule (wpAny_bind (wpAny_holding (wpAny_mono hr (fun _ s2 q => ?_) fun _ _ z => z))))
      obtain ⟨m, hn, q⟩ := q
      refine wpAny_bind (wpAny_comp_letGo (cenv := { cenv with scope := relabel scope env }) c4 _ s2 m (fun y hy => ?_) hn fun h' m' _ sb => ?_)
      · rcases List.mem_append.mp hy with hy | hy
        · exact loc (List.mem_reverse.mp (List.mem_of_mem_drop hy))
        · exact loc (List.mem_reverse.mp (List.mem_of_mem_take hy))
      · exact wpAny_pure (q h' sb)
end
/-- the block's context, what is raised told -/
abbrev blkE (X : Cx) (s : Shared) (H : Hp) (scope : Scope) (cenv : Env) (fp : List Addr) (xe : Value → Shared → Prop) : Cx := { X.blk s H scope cenv fp with xe := xe }
theorem okE {X : Cx} {xe : Value → Shared → Prop} (k : X.Ok) : Cx.Ok { X with xe := xe } := ⟨k.mod, k.kind, k.glob, k.blt, k.above, k.inj, k.has, k.cab, k.hd, k.frames, k.stk, k.exf, k.bs, k.bsz, k.noex, k.exfs, k.funs, k.frf⟩
theorem invE {X : Cx} {xe : Value → Shared → Prop} {pins : List (Addr × Obj)} {σ : L2.St} {H : Hp} {s : Shared} (I : Inv X pins σ H s) : Inv { X with xe := xe } pins σ H s :=
  ⟨okE I.ok, I.os, I.bare, I.base, I.loc, I.cell, I.free, I.freeC, I.pin, I.hok, I.len⟩
section
variable {M : Model} {A : Around} {E : Value → Shared → Prop} {s : Shared} {Z : Obj → Prop} {base : Heap} {env : Env} {outer : List Env} {L C e : Addr}
theorem rawInt_ne (h : C ≠ L) : ¬ ((rawInt C == rawInt L) = true) := by
  intro z
  have z := eq_of_beq z
  unfold rawInt at z
  injection z with z
  exact h (by exact_mod_cast z)
/-- the flight stood for another frame -/
theorem looks_off {Q : Unit → Shared → Prop} (hZ : HandSPX.Steady Z) (hfr : A.frames = some (env :: outer)) (hf : env.frame = some L) (hne : C ≠ L) (hh : HandSPX.HeldZ base (env :: outer) e Z C s.heap)
    (hQ : ∀ h', HandSPX.HeldZ base (env :: outer) e Z L h' → s.heap.UpToSlots h' → Q () { s with heap := h' }) : wpAny M A (noteFrame (.ref e) env) Q E s := by
  obtain ⟨k0, n0, fl, oe, vs, T, oT, ts, he, hz, hd, h1, nT, Te, hT, dT, h3⟩ := hh
  unfold noteFrame
  simp only [hf]
  refine wpAny_bind (wpAny_field he hd h1 ?_)
  rw [if_pos (show (Value.ref T != Value.none) = true from by simp)]
  refine wpAny_bind (wpAny_field hT dT h3 ?_)
  rw [if_neg (rawInt_ne hne)]
  have s3 : 3 < ts.size := (Array.getElem?_eq_some_iff.mp h3).1
  refine wpAny_bind (wpAny_setField hT dT s3 ?_)
  have far : ∀ b, b ≠ T → (s.heap.update T (Obj.mapFields (·.setIfInBounds 3 Value.none))).get? b = s.heap.get? b := fun b hb => Heap.get?_update_other _ _ (Ne.symm hb)
  have plain : ∀ b o, s.heap.get? b = some o → (∀ vs, o.data ≠ .fields vs) → b ≠ T := fun b o hb hn q => by
    rw [q, hT] at hb; cases hb; exact hn ts dT
  refine HandSPX.wpAny_entryZ hZ hfr (fl.of_keeps fun b o hb hn => ⟨o, (far b (plain b o hb hn)).trans hb, rfl⟩) hf ((far e (Ne.symm Te)).trans he) (fun b o hb => ?_) n0 hd (Array.getElem?_eq_some_iff.mp h1).1 hz fun h' N => ?_
  · refine (far b fun q => ?_).trans (k0 b o hb)
    rw [q, nT] at hb; cases hb
  · obtain ⟨x1, x2, x3, x4⟩ := N
    exact hQ h' ⟨x1, n0, x2, x3⟩ fun b o hb hn => x4 b o ((far b (plain b o hb hn)).trans hb) hn
end
theorem funFrames_hide {base B h h' : Heap} : ∀ {l : List Env}, h.FunFrames base l → (∀ L ∈ frs l, B.get? L = none ∧ h'.get? L = h.get? L) → h'.FunFrames B l
  | [], _, _ => trivial
  | env :: l, h, hn => by
    obtain ⟨hk, ⟨L, o, hf, _, ho, hd⟩, hr⟩ := h
    obtain ⟨q1, q2⟩ := hn L (List.mem_filterMap.mpr ⟨env, List.mem_cons_self, hf⟩)
    exact ⟨hk, ⟨L, o, hf, q1, q2.trans ho, hd⟩, funFrames_hide hr fun b hb => by
      obtain ⟨e, he, q⟩ := List.mem_filterMap.mp hb
      exact hn b (List.mem_filterMap.mpr ⟨e, List.mem_cons_of_mem _ he, q⟩)⟩
section
variable {X : Cx} {pins : List (Addr × Obj)} {σ : L2.St} {H3 : Hp} {s3 : Shared} {scope : Scope} {fp : List Addr} {ce : Env} {W WB : WX}
theorem blk_raise {use : Option (Value → Sem Unit)} {Qf : Value → Shared → Prop} {acc : Value} (hs : X.stack = X.env :: X.outer) (hf : X.env.frame = some X.env.locals) (tk : Takes X W) (I3 : Inv X pins σ H3 s3)
    (f3 : ∀ b ∈ fp, FpOk X pins H3 b ∧ b < s3.heap.objs.size) (hC : ce.locals = s3.heap.objs.size) (hF : ce.frame = X.env.frame) (hW : ∀ cls d σ' H', WB cls d σ' H' → W cls d σ H') :
    Takes (blkE X s3 H3 scope ce fp (notedBy (model X.prog X.w) X.A ce fun e s' => blkEnd (model X.prog X.w) X.A X.xe use Qf acc s3.heap.objs.size ce.frame (.error e) s')) WB := by
  rintro u s' ⟨a, B, sI, pins', σ', H', cls, d, rfl, J, nb, up, sky, na, os, ag, w⟩
  show wpAny _ _ (noteFrame (.ref a) ce) _ _ _
  have en : noteFrame (.ref a) ce = noteFrame (.ref a) X.env := by unfold noteFrame PySem.frameOf; rw [hF]
  rw [en]
  generalize hCC : s3.heap.objs.size = C at hC ⊢
  have hfr : X.A.frames = some (X.env :: X.outer) := by rw [I3.ok.frames, hs]
  have fresh : ∀ b o, s3.heap.get? b = some o → b ≠ C := fun b o e z => absurd (Heap.lt_size e) (by rw [z, ← hCC]; exact Nat.lt_irrefl _)
  have frn : ∀ b ∈ frs X.stack, b ≠ C := fun b hb => by
    obtain ⟨_, o, e, _⟩ := I3.stack.mem hb
    exact fresh b o e
  have hCL : C ≠ X.env.locals := fun z => by
    obtain ⟨m, hn, _⟩ := I3.loc
    have := hn.lt
    rw [← z, ← hCC] at this
    exact Nat.lt_irrefl _ this
  have skyC : Sky B (X.env :: X.outer) a (Zc cls d) C s'.heap := by
    have := sky
    rw [show (blkE X s3 H3 scope ce fp _).env.locals = C from hC, show (blkE X s3 H3 scope ce fp _).stack = X.env :: X.outer from hs] at this
    exact this
  obtain ⟨m0, hm0, _⟩ := J.loc
  have hm0 : sI.heap.Ns C m0 := by rw [← hC]; exact hm0
  -- noted by the def's frame
  have fin : ∀ h1, HandSPX.HeldZ B (X.env :: X.outer) a (Zc cls d) X.env.locals h1 → s'.heap.UpToSlots h1 →
      blkEnd (model X.prog X.w) X.A X.xe use Qf acc C ce.frame (.error (.ref a)) { s' with heap := h1 } := by
    intro h1 hh up1
    have hn1 : h1.Ns C m0 := up1.ns (up.ns hm0)
    refine ⟨m0, hn1, fun h' sb e' hee => ?_⟩
    obtain ⟨k0, n0, fl, oe, vs, T, oT, ts, he, hz, hd, hv1, nT, Te, hT, dT, ht3⟩ := hh
    have notC : ∀ b o, h1.get? b = some o → (∃ vs, o.data = .fields vs) → b ≠ C := fun b o e ⟨vs, q⟩ z => by
      obtain ⟨o2, es, ep, ho, hd2, _⟩ := hn1
      rw [z, ho] at e; cases e
      rw [hd2] at q; cases q
    have aC : a ≠ C := notC a oe he ⟨vs, hd⟩
    have TC : T ≠ C := notC T oT hT ⟨ts, dT⟩
    obtain ⟨B', b1, b2⟩ := restrict B fun b => decide (b ≠ C)
    obtain ⟨G, g1, g2⟩ := restrict sI.heap fun b => decide (b ≠ C)
    have bB : ∀ b o, B'.get? b = some o → B.get? b = some o ∧ b ≠ C := fun b o e => by
      by_cases hb : b = C
      · rw [b2 b (by simp [hb])] at e; cases e
      · rw [b1 b (by simp [hb])] at e; exact ⟨e, hb⟩
    have bG : ∀ b o, G.get? b = some o → sI.heap.get? b = some o ∧ b ≠ C := fun b o e => by
      by_cases hb : b = C
      · rw [g2 b (by simp [hb])] at e; cases e
      · rw [g1 b (by simp [hb])] at e; exact ⟨e, hb⟩
    have nB : ∀ b, B.get? b = none → B'.get? b = none := fun b e => by
      cases q : B'.get? b with
      | none => rfl
      | some o => rw [(bB b o q).1] at e; cases e
    have held : HandSPX.HeldZ B' (X.env :: X.outer) a (Zc cls d) X.env.locals h' := by
      refine ⟨fun b o e => ?_, nB a n0, funFrames_hide fl fun l hl => ?_, oe, vs, T, oT, ts, (sb.2 a aC).trans he, hz, hd, hv1, nB T nT, Te, (sb.2 T TC).trans hT, dT, ht3⟩
      · obtain ⟨e, hb⟩ := bB b o e
        exact (sb.2 b hb).trans (k0 b o e)
      · exact ⟨nB l (fl.mem hl).1, sb.2 l (frn l (by rw [hs]; exact hl))⟩
    have up' : G.UpToSlots h' := fun b o e hn => by
      obtain ⟨e, hb⟩ := bG b o e
      obtain ⟨sl, q⟩ := up b o e hn
      obtain ⟨sl2, q2⟩ := up1 b _ q hn
      exact ⟨sl2, (sb.2 b hb).trans q2⟩
    -- the def's own state
    have I7 : Inv X pins σ H' sI := I3.call' (ch := fp) J.os J.base J.hok J.bare fun b hb => ⟨(f3 b hb).1.2.2.2.1, (f3 b hb).1.2.1, (f3 b hb).1.2.2.2.2.1, (f3 b hb).1.2.2.2.2.2⟩
    have nC : H' C = none := by have z : H' ce.locals = none := J.free; rw [hC] at z; exact z
    obtain ⟨y0, y1, y2, y3, y4, y5⟩ := I3.fpOk (H' := H') (b := C) (Nat.le_of_eq hCC) nC
    have I8 : Inv X pins σ H' { sI with heap := G } := I7.turned (t' := sI.toks) (fun b o hb e => by rw [g1 b (by simp [hb])]; exact e) y0 y1 y3 y4 y5
    obtain ⟨z0, z1, z2, oe', vs', T', oT', ts', he', hz', hd', hv1', nT', Te', hT', dT', ht3'⟩ := id held
    unfold PySem.passOn
    refine wpAny_bind (wpAny_field he' hd' hv1' ?_)
    rw [if_neg (show ¬ ((Value.ref T' == Value.none) = true) from by simp)]
    have go : wpAny (model X.prog X.w) X.A (setFlight (.ref a) e'.frame) (fun _ s4 => wpAny (model X.prog X.w) X.A (throw (.ref a) : Sem Value) (fun _ _ => False) X.xe s4) X.xe { s' with heap := h' } := by
      refine HandSPX.setFlight_anyZ z0 z2 held.2.2.2 fun h4 k1 k2 k3 up4 => wpAny_throw (tk _ _ ?_)
      refine ⟨a, B', { sI with heap := G }, pins, σ, H', cls, d, rfl, I8, fun b o e hb => ?_, up'.trans up4, .inr (.inr ?_), na, os, ag, hW _ _ _ _ w⟩
      · obtain ⟨e, hb'⟩ := bG b o e
        rw [b1 b (by simp [hb'])]
        exact nb b o e hb
      · rw [hs]
        refine ⟨k1, z1, k2, ?_⟩
        rw [hee, hF, hf] at k3
        exact k3
    first
      | exact wpAny_bind (wpAny_pure (wpAny_bind go))
      | exact wpAny_bind go
  rcases skyC with ⟨hB, hn, hl, oe, vs, he, hz, hd, h1⟩ | fl | hh
  · exact HandSPX.look_newZ Zc.steady hfr hl hf he hB hn hd h1 hz fun h1 hh up1 => fin h1 hh up1
  · exact HandSPX.looks_onZ Zc.steady hfr hf fl fun h1 hh up1 => fin h1 hh up1
  · exact looks_off Zc.steady hfr hf hCL hh fun h1 hh up1 => fin h1 hh up1
end
section
variable {X : Cx} {pins : List (Addr × Obj)} {σ : L2.St} {H : Hp} {s : Shared} {scope : Scope} {W : WX}
/-- what the block is to do, the exceptions' wish told by WB -/
def tLx (X : Cx) (scope : Scope) (tg : Expr) (ifs : List Expr) (elt : Expr) (W : WX) (wi : TI) (vs : List Nat) : TE := fun σ H Q => wi σ H fun J H1 =>
  ∃ (WB : WX) (g : TG) (tt : TT) (te : TE), (∀ cls d σ' H', WB cls d σ' H' → W cls d σ H') ∧
    (∀ (s : Shared) (H : Hp) (C : Addr) (cl : List (Str × Addr)) (fp : List Addr) (xe : Value → Shared → Prop), Takes (blkE X s H scope (compEnvC scope cl C X.env) fp xe) WB →
      PG (blkE X s H scope (compEnvC scope cl C X.env) fp xe) tg g ∧ PTs (blkE X s H scope (compEnvC scope cl C X.env) fp xe) ifs tt ∧ PE (blkE X s H scope (compEnvC scope cl C X.env) fp xe) elt te) ∧
    ∀ D, H1 D = none → ∃ V : Nat → Nat → Hp → Prop, (∃ m, V 0 m (upd H1 D (.lst []))) ∧ ∀ i m H, V i m H →
      (J.stop i H ∧ Q (.ref D) H) ∨ (J.go i H ∧ ∃ Nx : Hp → Prop, (∀ H', Nx H' → ∃ m', m' < m ∧ V (i + 1) m' H') ∧ ∀ x H', J.yld i H x H' → g x (wipe σ vs) H' fun σ2 H2 => wipe σ2 vs = wipe σ vs ∧ tt σ2 H2 fun b H3 =>
        if b = true then te σ2 H3 fun y H4 => ∃ acc, H4 D = some (.lst acc) ∧ acc.length < sizeLine ∧ Nx (upd H4 D (.lst (acc ++ [y]))) else Nx H3)
theorem lx_core {Q : VK} {elt tg iter : Expr} {ifs : List Expr} {own : List (Str × Nat)} {pos pos' : Pos} {wi : TI} {use : Option (Value → Sem Unit)} {Qf : Value → Shared → Prop}
    (hc : X.calm = true) (hs : X.stack = X.env :: X.outer) (hf : X.env.frame = some X.env.locals) (tk : Takes X W) (hN : X.N.Nodup) (I : Inv X pins σ H s) (hi : PI X tg iter wi) (ok : BlkOk X.N X.env.scope scope own)
    (fs : ∀ x, foldedSetIterable iter X.env x = pure x) (h : tLx X scope tg ifs elt W wi (own.map (·.2)) σ H Q)
    (out : ∀ D C s' m H', Inv X pins σ H' s' → Q (.ref D) H' → s'.heap.Ns C m → FpOk X pins H' C → compPost (model X.prog X.w) X.A X.xe use Qf (.ref D) C (.ok .next) s') :
    wpAny (model X.prog X.w) X.A (comprehension (.ListComp elt [⟨tg, iter, ifs, 0⟩] scope pos) scope X.env pos' (newList []) false (eval iter X.env) use) Qf X.xe s := by
  have cap : ∀ y ∈ scope.names, y.2 = .free → ∃ c, X.env.cells.lookup y.1 = some c := fun y hy e =>
    (ok.free y hy e).elim (fun k => I.ok.has _ (.inl k)) fun k => I.ok.has _ (.inr k)
  refine comp_own (use := use) rfl fs (closure_ok cap) ok.kind (fun y hy e => by rw [ok.uniq y hy, e]) (thn (hi.run pins s σ H _ I h) fun v1 t1 h1 => thn h1 fun v2 t2 h2 => ?_)
  obtain ⟨it, fp, tn, J, H2, rfl, I2, T, st2, f2, q⟩ := h2
  obtain ⟨WB, g, tt, te, hWB, parts, q⟩ := q
  refine wpAny_newObj_type (newEnv_comp ?_) (by show 0 ≤ sizeLine; decide)
  generalize hD : t2.heap.objs.size = D
  have nD : H2 D = none := I2.hok.fresh (Nat.le_of_eq hD)
  obtain ⟨V, ⟨m0, v0⟩, turn⟩ := q D nD
  generalize ht3 : ({ t2 with heap := t2.heap.push { cls := .type "list", data := .seq ([] : List Value).toArray } } : Shared) = t3
  have e3 : t3.heap = t2.heap.push { cls := .type "list", data := .seq ([] : List Value).toArray } := by rw [← ht3]
  have I3 : Inv X pins σ (upd H2 D (.lst [])) t3 := by
    rw [← ht3]
    refine I2.laid (t' := t2.toks) (fun b o e => Heap.get?_push_of_some _ e) (Nat.le_of_eq hD) ⟨Nat.zero_le _, [], 0, .nil, ?_⟩
    rw [← hD]
    exact Heap.get?_push_size _ rfl
  have f3 : ∀ b ∈ fp, FpOk X pins (upd H2 D (.lst [])) b ∧ b < t3.heap.objs.size := fun b hb => by
    have hlt : b < t2.heap.objs.size := by
      obtain ⟨o, e, _⟩ := T.obj _ _ st2 b hb
      exact Heap.lt_size e
    refine ⟨⟨?_, (f2 b hb).2⟩, by rw [e3, Heap.size_push]; exact Nat.lt_succ_of_lt hlt⟩
    rw [upd_ne (by rw [← hD]; exact Nat.ne_of_lt hlt)]
    exact (f2 b hb).1
  have st3 : tn 0 t3.heap := T.keep _ _ _ st2 fun b _ o e => by rw [e3]; exact Heap.get?_push_of_some _ e
  have I4 := block_start I3 ok hN f3
  generalize hcl : cellsFrom (t3.heap.objs.size + 1) scope.names (cloFrom X.env.cells scope.names []) = cl at I4
  show codeAny _ _ (.compStart (.ListComp elt [⟨tg, iter, ifs, 0⟩] scope pos) 0 (.ref it) (.ref D) (compEnvC scope cl t3.heap.objs.size X.env))
    (blkEnd (model X.prog X.w) X.A X.xe use Qf (.ref D) t3.heap.objs.size X.env.frame) { t3 with heap := pushCells (t3.heap.push { cls := .type "dict", data := .dict #[] }) scope.names }
  have part := parts t3 (upd H2 D (.lst [])) t3.heap.objs.size cl fp
  have nfp : ∀ b ∈ fp, (upd H2 D (.lst [])) b = none := fun b hb => (f3 b hb).1.1
  generalize hce : compEnvC scope cl t3.heap.objs.size X.env = ce at I4 part ⊢
  have cL : ce.locals = t3.heap.objs.size := by subst hce; rfl
  have cF : ce.frame = X.env.frame := by subst hce; rfl
  generalize hH3 : upd H2 D (.lst []) = H3 at I3 I4 part v0 nfp f3
  obtain ⟨xe, hxe⟩ : ∃ xe, xe = notedBy (model X.prog X.w) X.A ce fun e s' => blkEnd (model X.prog X.w) X.A X.xe use Qf (.ref D) t3.heap.objs.size ce.frame (.error e) s' := ⟨_, rfl⟩
  have tkB : Takes (blkE X t3 H3 scope ce fp xe) WB := by
    rw [hxe]
    exact blk_raise hs hf tk I3 f3 cL cF hWB
  obtain ⟨pg, pt, pe⟩ := part xe tkB
  have I4 := invE (xe := xe) I4
  generalize ht4 : ({ t3 with heap := pushCells (t3.heap.push { cls := .type "dict", data := .dict #[] }) scope.names } : Shared) = t4 at I4 ⊢
  have st4 : tn 0 t4.heap := T.keep _ _ _ st3 fun b _ o e => by rw [← ht4]; exact pushCells_keeps _ _ _ _ (Heap.get?_push_of_some _ e)
  have stat : ∀ {σ' : L2.St} {H' : Hp} {s' : Shared}, Inv (blkE X t3 H3 scope ce fp xe) [] σ' H' s' → (∀ b ∈ fp, H' b = none) → ∀ b ∈ fp, FpOk (blkE X t3 H3 scope ce fp xe) [] H' b := fun {σ' H' s'} I' hn b hb =>
    ⟨hn b hb, (I'.ok.exf b hb).1, I'.ok.exfs b hb, .inl hb, fun x c e => (I'.ok.exf b hb).2 x c e, fun p hp => by cases hp⟩
  have eR : ∀ e s', notedBy (model X.prog X.w) X.A ce (fun e s' => blkEnd (model X.prog X.w) X.A X.xe use Qf (.ref D) t3.heap.objs.size X.env.frame (.error e) s') e s' = xe e s' := fun e s' => by rw [hxe, cF]
  have loop : codeAny (model X.prog X.w) X.A (.compLoop (.ListComp elt [⟨tg, iter, ifs, 0⟩] scope pos) 0 (.ref it) (.ref D) ce) (blkEnd (model X.prog X.w) X.A X.xe use Qf (.ref D) t3.heap.objs.size X.env.frame) t4 := by
    have eX : (notedBy (model X.prog X.w) X.A ce fun e s' => blkEnd (model X.prog X.w) X.A X.xe use Qf (.ref D) t3.heap.objs.size X.env.frame (.error e) s') = xe := by funext e s'; exact eR e s'
    refine compLoop_any (fun n s' => ∃ i H', Inv (blkE X t3 H3 scope ce fp xe) [] (wipe σ (own.map (·.2))) H' s' ∧ tn i s'.heap ∧ (∀ b ∈ fp, H' b = none) ∧ V i n H') ?_ m0 ⟨0, H3, I4, st4, nfp, v0⟩
    rw [eX]
    rintro n s5 ⟨i, H5, I5, st5, n5, v5⟩
    rcases turn i n H5 v5 with ⟨stop, qq⟩ | ⟨go, Nx, hNx, step⟩
    · refine thnF (T.done (blkE X t3 H3 scope ce fp xe) rfl rfl rfl hc i [] s5 _ H5 (fun _ _ => False) I5 (stat I5 n5) st5 stop) fun r s6 ⟨hr, I6⟩ => ?_
      subst hr
      have I7 : Inv X pins σ H5 s6 := I3.call' (ch := fp) I6.os I6.base I6.hok I6.bare fun b hb => ⟨(f3 b hb).1.2.2.2.1, (f3 b hb).1.2.1, (f3 b hb).1.2.2.2.2.1, (f3 b hb).1.2.2.2.2.2⟩
      have nC : H5 t3.heap.objs.size = none := by rw [← cL]; exact I6.free
      obtain ⟨m, hn, _⟩ := I6.loc
      have hn : s6.heap.Ns t3.heap.objs.size m := by rw [← cL]; exact hn
      exact out D t3.heap.objs.size s6 m H5 I7 qq hn (I3.fpOk (Nat.le_refl _) nC)
    · refine thnF (T.item (blkE X t3 H3 scope ce fp xe) rfl rfl rfl hc i [] s5 _ H5 (fun _ _ => False) I5 (stat I5 n5) st5 go) fun r s6 ⟨u, hr, h6⟩ => ?_
      subst hr
      refine thnF h6 fun _ s7 ⟨x, H7, I7, r7, y7, st7, n7⟩ => ?_
      have J7 := I7.pinned (stat I7 n7) (T.obj _ _ st7)
      refine thn (pg.run _ s7 _ H7 x u _ J7 r7 (step x H7 y7)) fun _ s8 ⟨σ8, H8, I8, hw8, q8⟩ => ?_
      refine thn (pt.run _ s8 σ8 H8 _ I8 q8) fun b s9 ⟨H9, I9, q9⟩ => ?_
      have fin : ∀ {s' : Shared} {H' : Hp}, Inv (blkE X t3 H3 scope ce fp xe) ([] ++ pinsAt fp s7.heap) σ8 H' s' → Nx H' →
          ∃ m, m < n ∧ ∃ i H', Inv (blkE X t3 H3 scope ce fp xe) [] (wipe σ (own.map (·.2))) H' s' ∧ tn i s'.heap ∧ (∀ b ∈ fp, H' b = none) ∧ V i m H' := fun {s' H'} I' nx => by
        obtain ⟨m', hm, v'⟩ := hNx H' nx
        have there : ∀ b ∈ fp, ∀ o, s7.heap.get? b = some o → s'.heap.get? b = some o ∧ H' b = none := fun b hb o e =>
          let z := I'.pin (b, o) (List.mem_append_right _ (List.mem_append_right _ (mem_pinsAt hb e)))
          ⟨z.1, z.2.1⟩
        have hl : (wipe σ (own.map (·.2))).length = σ8.length := by rw [← hw8, wipe_length]
        refine ⟨m', hm, i + 1, H', (I'.unpinned (pins := [])).weak hl (fun j v e => by rw [← hw8] at e; exact (wipe_some e).1), T.keep _ _ _ st7 fun b hb o e => (there b hb o e).1, fun b hb => ?_, v'⟩
        obtain ⟨o, e, _⟩ := T.obj _ _ st7 b hb
        exact (there b hb o e).2
      cases b with
      | false =>
        simp only [Bool.false_eq_true, if_false] at q9 ⊢
        exact fin I9 q9
      | true =>
        simp only [if_true] at q9 ⊢
        refine thn (pe.run _ s9 σ8 H9 _ I9 q9) fun z s10 ⟨yv, H10, I10, r10, acc, hD10, hz10, nx⟩ => ?_
        exact app_ok (X := blkE X t3 H3 scope ce fp xe) I10 hD10 hz10 r10 fun s11 I11 => fin I11 nx
  exact codeAny_compStart_list loop (T.self X.A 0 _ _ _ st4 loop)
theorem pe_lx {elt tg iter : Expr} {ifs : List Expr} {own : List (Str × Nat)} {pos : Pos} {wi : TI} (hc : X.calm = true) (hs : X.stack = X.env :: X.outer) (hf : X.env.frame = some X.env.locals) (tk : Takes X W) (hN : X.N.Nodup)
    (hi : PI X tg iter wi) (ok : BlkOk X.N X.env.scope scope own) (fs : ∀ x, foldedSetIterable iter X.env x = pure x) : PE X (.ListComp elt [⟨tg, iter, ifs, 0⟩] scope pos) (tLx X scope tg ifs elt W wi (own.map (·.2))) := by
  refine ⟨fun pins s σ H Q I h => ?_⟩
  rw [eval_ListComp]
  refine lx_core hc hs hf tk hN I hi ok fs h fun D C s' m H' I' q hn f => ⟨m, hn, fun h2 sb => ?_⟩
  obtain ⟨f0, f1, f2, f3, f4, f5⟩ := f
  exact ⟨.ref D, H', I'.turned (t' := s'.toks) (fun b o hb e => (sb.2 b hb).trans e) f0 f1 f3 f4 f5, rfl, q⟩
theorem ps_setLx {i : Nat} {y : Str} {py : Pos} {elt tg iter : Expr} {ifs : List Expr} {own : List (Str × Nat)} {pos spos : Pos} {wi : TI} (hc : X.calm = true) (hs : X.stack = X.env :: X.outer) (hf : X.env.frame = some X.env.locals) (tk : Takes X W) (hN : X.N.Nodup)
    (hy : X.N[i]? = some y) (hyl : X.env.scope.names.lookup y = some .local) (hsw : swapsWith (.ListComp elt [⟨tg, iter, ifs, 0⟩] scope pos) (some (.Name y py)) spos.line X.env = pure true)
    (hi : PI X tg iter wi) (ok : BlkOk X.N X.env.scope scope own) (fs : ∀ x, foldedSetIterable iter X.env x = pure x) :
    PS X (.Assign [.Name y py] (.ListComp elt [⟨tg, iter, ifs, 0⟩] scope pos) spos) (tAsg (tLx X scope tg ifs elt W wi (own.map (·.2))) (gName i)) := by
  refine ⟨fun pins s σ H D I h => ?_⟩
  rw [exec_Assign_Name_used _ _ _ _ hsw]
  refine wpAny_bind (wpAny_standAt (wpAny_bind ?_))
  show wpAny _ X.A (do let _ ← comprehension (.ListComp elt [⟨tg, iter, ifs, 0⟩] scope pos) scope X.env (firstIterPos [⟨tg, iter, ifs, 0⟩] pos) (newList []) false (eval iter X.env) (some (assign (.Name y py) X.env))) _ _ s
  have h2 : tLx X scope tg ifs elt W wi (own.map (·.2)) σ H (fun x H1 => gName i x σ H1 D.nx) := h
  refine wpAny_bind (thn (lx_core (Qf := fun _ s' => SP X pins D .next s') hc hs hf tk hN I hi ok fs h2 fun L C s' m H' I' q hn f => ?_) fun _ s' hq => wpAny_pure (wpAny_pure hq))
  show wpAny _ _ (assign (.Name y py) X.env (.ref L)) _ _ _
  refine wpAny_assign_Name (store_ok2 (v := V.ref L) I' hN hy (.inl hyl) rfl (fun s2 I2 ⟨a, sb, ha⟩ => ?_) (.inr hyl))
  obtain ⟨f0, f1, f2, f3, f4, f5⟩ := f
  have aC : C ≠ a := by
    rcases ha with z | z
    · rw [z]; exact f1
    · exact fun e => f4 y a z e.symm
  refine ⟨m, hn.sameBut sb aC, fun h3 sb3 => ?_⟩
  exact ⟨_, H', I2.turned (t' := s2.toks) (fun b o hb e => (sb3.2 b hb).trans e) f0 f1 f3 f4 f5, q⟩
end
/-- a block's places: since P, H, M, with more that is somebody's -/
def anB (P : Addr → Prop) (H : Hp) (M : Mp) : An := ⟨fun P' H' M' => ExtP P H M P' H' M', fun _ _ _ _ _ e h => ⟨h.ext.trans e, h.up, h.nw⟩⟩
section
variable {G : Gam} {an : An} {W : XW} {c : CT} {X : Cx}
theorem Good.blkE (g : Good G an W c X) (hh : c.hot = false) {an' : An} {W' : XW} {s : Shared} {H : Hp} {scope : Scope} {C : Addr} {cl : List (Str × Addr)} {fp : List Addr} {xe : Value → Shared → Prop}
    (tk : Takes (blkE X s H scope (compEnvC scope cl C X.env) fp xe) (liftX X an' W')) : Good G an' W' (blkCT c scope) (blkE X s H scope (compEnvC scope cl C X.env) fp xe) := by
  have b := g.blk hh (s := s) (H := H) (scope := scope) (C := C) (cl := cl) (fp := fp)
  refine ⟨b.N, b.sc, b.ws, b.nd, b.units, b.calm, b.room, b.blt, b.cst, fun hh i x n sp e1 e => ?_, fun hh i k m k' m' n sp e1 e => ?_, b.fl, fun i k k' fs e1 e => ?_, fun _ => tk, b.sub, b.xf, b.xi, fun a x e hz => ?_, fun z => ?_⟩
  · obtain ⟨f, h1, h2⟩ := b.fn hh i x n sp e1 e
    exact ⟨f, h1, ⟨h2.ok, h2.kp⟩⟩
  · obtain ⟨z1, z2, C, f, h1, h2, h3, h4, h5⟩ := b.mt hh i k m k' m' n sp e1 e
    exact ⟨z1, z2, C, f, h1, h2, h3, ⟨h4.ok, h4.kp⟩, h5⟩
  · obtain ⟨z1, h1, C, h2⟩ := b.exc i k k' fs e1 e
    exact ⟨z1, h1, C, ⟨h2.g, h2.x, h2.kp, h2.sb, h2.ty⟩⟩
  · rw [show (blkCT c scope).hot = c.hot from rfl, hh] at hz; cases hz
  · cases z
theorem RepE.show' {K : PySem.W.Frag} {mg : Str → Option Value} {an an' : An} {P P' : Addr → Prop} {H : Hp} {M : Mp} {ρ : Env1} {σ : L2.St} (e : ∀ a, P a → P' a) (r : RepE ⟨K, mg, P', an'⟩ H M ρ σ) : RepE ⟨K, mg, P, an⟩ H M ρ σ :=
  ⟨r.1, fun i d h => let ⟨v, h1, h2⟩ := r.2 i d h; ⟨v, h1, h2.show' e⟩⟩
theorem RepX.show' {K : PySem.W.Frag} {mg : Str → Option Value} {an an' : An} {P P' : Addr → Prop} {H : Hp} {M : Mp} {x : XD} {cls : Value} {dd : Option Addr} (e : ∀ a, P a → P' a) (r : RepX ⟨K, mg, P', an'⟩ H M x cls dd) : RepX ⟨K, mg, P, an⟩ H M x cls dd := by
  obtain ⟨C, h1, h2, h3⟩ := r
  refine ⟨C, h1, h2, h3.imp id fun ⟨n, d, vs, q1, q2, q3⟩ => ⟨n, d, vs, q1, q2, fun f e0 he => ?_⟩⟩
  obtain ⟨v, v1, v2⟩ := q3 f e0 he
  exact ⟨v, v1, v2.show' e⟩
/-- an exception of the block, seen from the def -/
theorem liftX_blk {P : Addr → Prop} {ρ : Env1} {M : Mp} {H : Hp} {σ : L2.St} (hE : RepE (wd X an P) H M ρ σ) (hR : RelH (wd X an P) H M) : ∀ cls d σ' H', liftX X (anB P H M) (fun x _ M' => W x ρ M') cls d σ' H' → liftX X an W cls d σ H' := by
  rintro cls d σ' H' ⟨P', x, ρ', M', _, r, rx, w⟩
  have e : ExtP P H M P' H' M' := r.ah
  exact ⟨P, x, ρ, M', (hE.extP (an' := an) e).show' e.up, r.show' e.up (an.cl _ _ _ _ _ e.ext hR.ah), rx.show' e.up, w⟩
theorem lx_fold {P : Addr → Prop} {b : TGD} {cond : TTD} {elt : TD} {xs : List D} {g : Mp → Prop} {ρ : Env1} {M : Mp} {H : Hp} {σ : L2.St} {vs : List Nat} {J : It} {R : List D → Mp → Prop} {Q : VK} {D0 : Addr}
    (hE : RepE (wd X an P) H M ρ σ) (hR : RelH (wd X an P) H M) (hJ : ItRep X P H M J xs g) (hD : H D0 = none) (hz : xs.length ≤ sizeLine) (h : foldC b cond elt (wipeD ρ vs) g xs [] M R)
    (k : ∀ ds M', R ds M' → ∀ us H', H' D0 = some (.lst us) → M' D0 = none → Ext H M H' M' → RelH (wd X .top (hid P D0)) H' M' → Reps (wd X .top (hid P D0)) H' M' ds us → Q (.ref D0) H') :
    ∃ V : Nat → Nat → Hp → Prop, (∃ m, V 0 m (upd H D0 (.lst []))) ∧ ∀ i m H1, V i m H1 →
      (J.stop i H1 ∧ Q (.ref D0) H1) ∨ (J.go i H1 ∧ ∃ Nx : Hp → Prop, (∀ H', Nx H' → ∃ m', m' < m ∧ V (i + 1) m' H') ∧ ∀ x H', J.yld i H1 x H' → gW X (anB P H M) vs b x (wipe σ vs) H' fun σ2 H2 => wipe σ2 vs = wipe σ vs ∧ liftT X (anB P H M) cond σ2 H2 fun bb H3 =>
        if bb = true then lift X (anB P H M) elt σ2 H3 fun y H4 => ∃ acc, H4 D0 = some (.lst acc) ∧ acc.length < sizeLine ∧ Nx (upd H4 D0 (.lst (acc ++ [y]))) else Nx H3) := by
  refine ⟨fun i m H1 => ∃ M1 ds us, H1 D0 = some (.lst us) ∧ Reps (wd X .top (hid P D0)) H1 M1 ds us ∧ RelH (wd X .top (hid P D0)) H1 M1 ∧ ExtP P H M (hid P D0) H1 M1 ∧ i + m = xs.length ∧ us.length ≤ i ∧ foldC b cond elt (wipeD ρ vs) g (xs.drop i) ds M1 R,
    ⟨xs.length, M, [], [], upd_same, .nil, hR.hide hD, ExtP.hide hD, by omega, Nat.zero_le _, h⟩, ?_⟩
  rintro i m H1 ⟨M1, ds, us, hd, pd, hR1, e1, em, ul, h1⟩
  have p0 : hid P D0 D0 := .inr rfl
  have hm : M1 D0 = none := (hR1.pv D0 p0).1
  have toA : ∀ {Hn : Hp} {Mn : Mp}, ExtP P H M (hid P D0) Hn Mn → RelH (wd X .top (hid P D0)) Hn Mn → RelH (wd X (anB P H M) (hid P D0)) Hn Mn := fun e r => r.show' (fun _ p => p) e
  have ofA : ∀ {Hn : Hp} {Mn : Mp}, RelH (wd X (anB P H M) (hid P D0)) Hn Mn → RelH (wd X .top (hid P D0)) Hn Mn := fun r => r.show' (fun _ p => p) trivial
  have repA : ∀ {Hn : Hp} {Mn : Mp} {d : D} {v : V}, Rep (wd X .top (hid P D0)) Hn Mn d v → Rep (wd X (anB P H M) (hid P D0)) Hn Mn d v := fun r => r.show' fun _ p => p
  have repT : ∀ {Hn : Hp} {Mn : Mp} {d : D} {v : V}, Rep (wd X (anB P H M) (hid P D0)) Hn Mn d v → Rep (wd X .top (hid P D0)) Hn Mn d v := fun r => r.show' fun _ p => p
  cases hx : xs[i]? with
  | none =>
    have hl : xs.length ≤ i := List.getElem?_eq_none_iff.mp hx
    rw [List.drop_eq_nil_of_le hl] at h1
    exact .inl ⟨hJ.stop i _ _ H1 M1 e1.w hR1 h1.1 (by omega), k _ _ h1.2 _ _ hd hm e1.ext hR1 pd⟩
  | some x =>
    rw [drop_cons hx] at h1
    obtain ⟨hg, h1⟩ := h1
    have hi : i < xs.length := (List.getElem?_eq_some_iff.mp hx).1
    refine .inr ⟨hJ.go i _ _ H1 M1 x e1.w hR1 hg hx, fun H' => ∃ M' ds us, H' D0 = some (.lst us) ∧ Reps (wd X .top (hid P D0)) H' M' ds us ∧ RelH (wd X .top (hid P D0)) H' M' ∧ ExtP P H M (hid P D0) H' M' ∧ us.length ≤ i + 1 ∧ foldC b cond elt (wipeD ρ vs) g (xs.drop (i + 1)) ds M' R, ?_, ?_⟩
    · rintro H' ⟨M', ds, us, a1, a3, a4, a5, a6, a7⟩
      exact ⟨m - 1, by omega, M', ds, us, a1, a3, a4, a5, by omega, a6, a7⟩
    · intro v H' hy
      obtain ⟨y1, y2, y3⟩ := hJ.yld i _ _ H1 M1 x v H' e1.w hR1 hg hx hy
      have up : ∀ {Hn : Hp} {Mn : Mp}, Ext H1 M1 Hn Mn → ExtP P H M (hid P D0) Hn Mn := fun q => ⟨e1.ext.trans q, e1.up, e1.nw⟩
      have hE1 : RepE (wd X (anB P H M) (hid P D0)) H' M1 ρ σ := RepE.extP (an' := anB P H M) (up y1) hE
      refine ⟨_, x, wipeD ρ vs, M1, _, repA y3, wipe_rep hE1 vs, toA (up y1) y2, h1, fun ρ2 M2 h2 σ2 H2 hw e2 r2 E2 => ⟨hw.trans wipe_idem, ?_⟩⟩
      have e12 := y1.trans e2
      refine ⟨_, ρ2, M2, _, E2, r2, h2, fun bb M3 h3 H3 e3 r3 => ?_⟩
      have e13 := e12.trans e3
      cases bb with
      | true =>
        show lift X (anB P H M) elt σ2 H3 _
        refine ⟨_, ρ2, M3, _, E2.ext e3, r3, h3, fun d M4 h4 v4 H4 e4 r4 p4 => ?_⟩
        have e14 := e13.trans e4
        have q4 := e14.keep D0 _ hm hd
        have nt : ∀ xs, ¬ Rd H4 D0 (.tup xs) := fun xs z => by
          rcases z with z | ⟨o, z⟩ <;> (rw [q4.1] at z; cases z)
        exact ⟨us, q4.1, by omega, M4, ds ++ [d], us ++ [v4], upd_same, ((pd.ext e14).append (.cons (repT p4) .nil)).priv p0 nt, (ofA r4).priv p0 nt, (up e14).priv hD, by simp; omega, h4⟩
      | false =>
        have q3 := e13.keep D0 _ hm hd
        exact ⟨M3, ds, us, q3.1, pd.ext e13, ofA r3, up e13, by omega, h3⟩
end
end DS

/-! DS11: expressions keep their word -/
namespace DS
open PySem PySem.Spec PyProof.Rows L2
theorem boot_bf : ∀ f : BF, bootBuiltins f.id = some (.builtin f.id) := by intro f; cases f <;> decide +kernel
theorem boot_bt : ∀ f : BT, bootBuiltins f.id = some (.type f.id) := by intro f; cases f <;> decide +kernel
theorem boot_ic : ∀ f : IC, bootBuiltins f.id = some (.type f.id) := by intro f; cases f <;> decide +kernel
theorem mem_bf : ∀ f : BF, (f.id : Str) ∈ bnames ∧ (f.id : Str) ≠ "__name__" := by intro f; cases f <;> decide +kernel
theorem mem_bt : ∀ f : BT, (f.id : Str) ∈ bnames ∧ (f.id : Str) ≠ "__name__" := by intro f; cases f <;> decide +kernel
theorem mem_ic : ∀ f : IC, (f.id : Str) ∈ bnames ∧ (f.id : Str) ≠ "__name__" := by intro f; cases f <;> decide +kernel
theorem range_nn (i j c : Int) : 0 ≤ Builtin.Range.rangeSize i j c := by
  unfold Builtin.Range.rangeSize
  split
  · split
    · rename_i h1 h2
      have := Int.ediv_nonneg (a := j - i - 1) (b := c) (by omega) (by omega)
      omega
    · exact Int.le_refl 0
  · split
    · rename_i h1 h2
      have := Int.ediv_nonneg (a := i - j - 1) (b := -c) (by omega) (by omega)
      omega
    · exact Int.le_refl 0
theorem boot_isi : bootBuiltins "isinstance" = some (.builtin "isinstance") := by decide +kernel
theorem slot_bm : ∀ f : BM, PlainAttrs "list" ∧ Slot "list" f.at f.id ∧ typeOf (.builtin f.id) = pure (.type "method_descriptor") := by
  intro f
  cases f
  · exact ⟨PySem.F.plainAttrs_list, PySem.F.slot_list_append, PySem.F.type_list_append⟩
  · exact ⟨PySem.F.plainAttrs_list, PySem.F.slot_list_pop, PySem.F.type_list_pop⟩
  · exact ⟨PySem.F.plainAttrs_list, PySem.F.slot_list_extend, PySem.F.type_list_extend⟩
section
variable {G : Gam} {an : An} {W : XW} {X : Cx}
theorem mkE {e : Expr} {t : E} (q : PE X e (lift X an (wpE G W t))) (he : ∀ whole, isTrue e X.env whole = (do let v ← whole; standAt e.pos; holding [v] (truthy v))) :
    PE X e (lift X an (wpE G W t)) ∧ (okT t = true → PT X e (liftT X an (wpT G W t))) := ⟨q, fun _ => pt_of q he⟩
theorem wpT_and {a b : E} {ρ : Env1} {M : Mp} {R : Bool → Mp → Prop} : wpT G W (.and a b) ρ M R = wpT G W a ρ M (fun t M1 => match t with
    | true => wpT G W b ρ M1 R
    | false => R false M1) := by
  show wpE G W a ρ M _ = wpE G W a ρ M _
  congr 1
  funext x M1
  cases x with
  | bl t => cases t <;> rfl
  | _ => rfl
theorem wpT_or {a b : E} {ρ : Env1} {M : Mp} {R : Bool → Mp → Prop} : wpT G W (.or a b) ρ M R = wpT G W a ρ M (fun t M1 => match t with
    | true => R true M1
    | false => wpT G W b ρ M1 R) := by
  show wpE G W a ρ M _ = wpE G W a ρ M _
  congr 1
  funext x M1
  cases x with
  | bl t => cases t <;> rfl
  | _ => rfl
theorem wpT_not {a : E} {ρ : Env1} {M : Mp} {R : Bool → Mp → Prop} : wpT G W (.not a) ρ M R = wpT G W a ρ M (fun t M1 => R (!t) M1) := by
  show wpE G W a ρ M _ = wpE G W a ρ M _
  have : ∀ {f g : D → Mp → Prop}, f = g → wpE G W a ρ M f = wpE G W a ρ M g := fun e => by rw [e]
  refine this ?_
  funext x M1
  cases x <;> rfl
theorem and_E {a b : E} {x y : Expr} {r : List Expr} {pos : Pos} (ha : PE X x (lift X an (wpE G W a))) (hb : PE X (.BoolOp .And (y :: r) pos) (lift X an (wpE G W b))) : PE X (.BoolOp .And (x :: y :: r) pos) (lift X an (wpE G W (.and a b))) := by
  refine PE.imp (pe_and ha hb) ?_
  rintro σ H Q ⟨P, ρ, M, R, hE, hR, hw, k⟩
  refine ⟨P, ρ, M, _, hE, hR, hw, fun z M1 h1 v1 H1 e1 r1 p1 => ?_⟩
  cases p1 with
  | bl t =>
    cases t with
    | true => exact ⟨true, rfl, P, ρ, M1, R, hE.ext e1, r1, h1, fun d M' hd v H' e r p => k d M' hd v H' (e1.trans e) r p⟩
    | false => exact ⟨false, rfl, k _ _ h1 _ _ e1 r1 (.bl _)⟩
  | _ => exact h1.elim
theorem or_E {a b : E} {x y : Expr} {r : List Expr} {pos : Pos} (ha : PE X x (lift X an (wpE G W a))) (hb : PE X (.BoolOp .Or (y :: r) pos) (lift X an (wpE G W b))) : PE X (.BoolOp .Or (x :: y :: r) pos) (lift X an (wpE G W (.or a b))) := by
  refine PE.imp (pe_or ha hb) ?_
  rintro σ H Q ⟨P, ρ, M, R, hE, hR, hw, k⟩
  refine ⟨P, ρ, M, _, hE, hR, hw, fun z M1 h1 v1 H1 e1 r1 p1 => ?_⟩
  cases p1 with
  | bl t =>
    cases t with
    | true => exact ⟨true, rfl, k _ _ h1 _ _ e1 r1 (.bl _)⟩
    | false => exact ⟨false, rfl, P, ρ, M1, R, hE.ext e1, r1, h1, fun d M' hd v H' e r p => k d M' hd v H' (e1.trans e) r p⟩
  | _ => exact h1.elim
theorem and_T {a b : E} {x y : Expr} {r : List Expr} {pos : Pos} (ha : PT X x (liftT X an (wpT G W a))) (hb : PT X (.BoolOp .And (y :: r) pos) (liftT X an (wpT G W b))) : PT X (.BoolOp .And (x :: y :: r) pos) (liftT X an (wpT G W (.and a b))) := by
  refine PT.imp (PW.pt (pw_and ha ⟨fun wh pins s σ H Q I h => hb.run pins s σ H Q I h⟩)) ?_
  rintro σ H Q ⟨P, ρ, M, R, hE, hR, hw, k⟩
  rw [wpT_and] at hw
  refine ⟨P, ρ, M, _, hE, hR, hw, fun t M1 h1 H1 e1 r1 => ?_⟩
  cases t with
  | true => exact ⟨P, ρ, M1, R, hE.ext e1, r1, h1, fun d M' hd H' e r => k d M' hd H' (e1.trans e) r⟩
  | false => exact k _ _ h1 _ e1 r1
theorem or_T {a b : E} {x y : Expr} {r : List Expr} {pos : Pos} (ha : PT X x (liftT X an (wpT G W a))) (hb : PT X (.BoolOp .Or (y :: r) pos) (liftT X an (wpT G W b))) : PT X (.BoolOp .Or (x :: y :: r) pos) (liftT X an (wpT G W (.or a b))) := by
  refine PT.imp (PW.pt (pw_or ha ⟨fun wh pins s σ H Q I h => hb.run pins s σ H Q I h⟩)) ?_
  rintro σ H Q ⟨P, ρ, M, R, hE, hR, hw, k⟩
  rw [wpT_or] at hw
  refine ⟨P, ρ, M, _, hE, hR, hw, fun t M1 h1 H1 e1 r1 => ?_⟩
  cases t with
  | true => exact k _ _ h1 _ e1 r1
  | false => exact ⟨P, ρ, M1, R, hE.ext e1, r1, h1, fun d M' hd H' e r => k d M' hd H' (e1.trans e) r⟩
theorem one_T {op : BoolOp} {x : Expr} {pos : Pos} {t : TT} (h : PT X x t) : PT X (.BoolOp op [x] pos) t := by
  cases op with
  | And => exact PW.pt (pw_and1 h)
  | Or => exact PW.pt (pw_or1 h)
end
def elLen : EL → Nat
  | .nil => 0
  | .cons _ es => elLen es + 1
theorem chkL_len : ∀ {c : CT} {es : EL} {fs : List Expr}, chkL c es fs = true → fs.length = elLen es
  | c, .nil, fs, h => by
    cases fs with
    | nil => rfl
    | cons _ _ => cases h
  | c, .cons e es, fs, h => by
    cases fs with
    | nil => cases h
    | cons f fs =>
      unfold chkL at h
      have h3 := (and_split h).2
      show fs.length + 1 = elLen es + 1
      rw [chkL_len h3]
theorem nt_dK {H : Hp} {a : Addr} {kvs : List (Key × V)} (h : H a = some (.dK kvs)) : ∀ xs, ¬ Rd H a (.tup xs) := fun xs z => by
  rcases z with z | ⟨o, z⟩ <;> (rw [h] at z; cases z)
theorem upd_upd {H : Hp} {a : Addr} {u w : HO} : upd (upd H a u) a w = upd H a w := by
  funext b
  by_cases hb : b = a
  · subst hb; rw [upd_same, upd_same]
  · rw [upd_ne hb, upd_ne hb, upd_ne hb]
/-- a dict that was made place by place -/
theorem dict_end {X : Cx} {an : An} {P : Addr → Prop} {H1 H' : Hp} {M1 M' : Mp} {R : QE} {Q : VK} {D0 : Addr} {m : Bool} {ds : List (Key × D)} {us : List (Key × V)} (k : Cont X an P H1 M1 R Q) (r1 : RelH (wd X an P) H1 M1) (hD : H1 D0 = none) (hd : newDc m ds M' R)
    (q1 : H' D0 = some (.dK us)) (q2 : M' D0 = none) (e : Ext H1 M1 H' M') (r : RelH (wd X .top (hid P D0)) H' M') (pp : RepK (wd X .top (hid P D0)) H' M' ds us) :
    Q (.ref D0) H' ∨ ∃ p kvs, V.ref D0 = .ref p ∧ H' p = some (.dK kvs) ∧ ∀ od, Q (.ref p) (upd H' p (.frz od (.dK kvs))) := by
  have np := r1.nop hD
  cases m with
  | true => exact .inl (k _ _ (hd D0 q2) _ _ (e.take hD) (r.own np (an.cl _ _ _ _ _ (e.take hD) r1.ah) ⟨us, q1, pp.own⟩) (.ref D0))
  | false =>
    refine .inr ⟨D0, us, rfl, q1, fun od => ?_⟩
    have p0 : hid P D0 D0 := .inr rfl
    have nt := nt_dK q1
    have e2 : Ext H1 M1 (upd H' D0 (.frz od (.dK us))) M' := by
      refine ⟨fun a xs z => rdNe (e.tup a xs z) fun w => ?_, fun a u mm z => ?_⟩
      · subst w; exact nt xs (e.tup a xs z)
      · have na : a ≠ D0 := by rintro rfl; rw [hD] at z; cases z
        rw [upd_ne na]; exact e.keep a u mm z
    exact k _ _ hd _ _ e2 ((r.priv p0 nt).show' (fun _ p => .inl p) (an.cl _ _ _ _ _ e2 r1.ah)) (.dic upd_same q2 np ((pp.priv p0 nt).show' fun _ p => .inl p))
theorem blk_I {X X' : Cx} {tg it : Expr} {r : TID} (h : PI X' tg it (liftI X' .top r)) (e1 : X'.K = X.K := by rfl) (e2 : X'.mg = X.mg := by rfl) : PI X' tg it (liftI X .top r) := by
  refine PI.imp h ?_
  rintro σ H RR ⟨P, ρ, M, RD, a1, a2, a3, k⟩
  have ew : ∀ P, wd X .top P = wd X' .top P := fun P => by unfold wd; rw [e1, e2]
  have ew' : ∀ an P, wd X an P = wd X' an P := fun an P => by unfold wd; rw [e1, e2]
  refine ⟨P, ρ, M, RD, ew P ▸ a1, ew P ▸ a2, a3, fun xs g M' h J H' b1 b2 b3 b4 => ?_⟩
  refine k xs g M' h J H' b1 (ew P ▸ b2) b3 ⟨fun i an P H M x c1 c2 => b4.go i an P H M x c1 (ew' an P ▸ c2), fun i an P H M c1 c2 => b4.stop i an P H M c1 (ew' an P ▸ c2), fun i an P H M x v H' c1 c2 c3 c4 c5 => ?_⟩
  obtain ⟨d1, d2, d3⟩ := b4.yld i an P H M x v H' c1 (ew' an P ▸ c2) c3 c4 c5
  exact ⟨d1, ew' an P ▸ d2, ew' an P ▸ d3⟩
def trsP (X : Cx) (G : Gam) : EL → List (TE × TE)
  | .cons k (.cons v r) => (lift X .top (wpE G (fun _ _ _ => False) k), lift X .top (wpE G (fun _ _ _ => False) v)) :: trsP X G r
  | _ => []
theorem evens_cons {x y : D} {r : List D} : evens (x :: y :: r) = x :: evens r := rfl
theorem odds_cons {x y : D} {r : List D} : odds (x :: y :: r) = y :: odds r := rfl
/-- the pairs of a display, while the dict stands somebody's -/
theorem pairs_lift {X : Cx} {G : Gam} : ∀ (es : EL) (ks : List (Option Expr)) {vs fs : List Expr} {c : CT} {P : Addr → Prop} {ρ : Env1} {M : Mp} {H : Hp} {σ : L2.St} {R : List D → Mp → Prop} {Q : List (V × V) → Hp → Prop}, zipKV ks vs = some fs → chkL c es fs = true →
    RepE (wd X .top P) H M ρ σ → RelH (wd X .top P) H M → wpL G (fun _ _ _ => False) es ρ M R →
    (∀ ds M', R ds M' → ∀ (kv : List (V × V)) H', kv.length = ks.length → Ext H M H' M' → RelH (wd X .top P) H' M' → Reps (wd X .top P) H' M' (evens ds) (kv.map (·.1)) → Reps (wd X .top P) H' M' (odds ds) (kv.map (·.2)) → Q kv H') → tPairs (trsP X G es) σ H Q
  | .nil, ks, vs, fs, c, P, ρ, M, H, σ, R, Q, hz, hc, hE, hR, hw, k => by
    cases fs with
    | nil =>
      have : ks = [] := by
        cases ks with
        | nil => rfl
        | cons x ks => cases x with
          | none => cases vs <;> cases hz
          | some x => cases vs with
            | nil => cases hz
            | cons v vs =>
              have hz : (zipKV ks vs).map (fun r => x :: v :: r) = some [] := hz
              cases e : zipKV ks vs with
              | none => rw [e] at hz; cases hz
              | some r => rw [e] at hz; cases hz
      subst this
      exact k _ _ hw [] H rfl .refl hR .nil .nil
    | cons _ _ => cases hc
  | .cons k1 .nil, ks, vs, fs, c, P, ρ, M, H, σ, R, Q, hz, hc, hE, hR, hw, k => by
    exfalso
    cases ks with
    | nil => cases vs with
      | nil => cases hz; cases hc
      | cons _ _ => cases hz
    | cons x ks => cases x with
      | none => cases vs <;> cases hz
      | some x => cases vs with
        | nil => cases hz
        | cons v vs =>
          have hz : (zipKV ks vs).map (fun r => x :: v :: r) = some fs := hz
          cases e : zipKV ks vs with
          | none => rw [e] at hz; cases hz
          | some r =>
            rw [e] at hz; cases hz
            unfold chkL at hc
            have := (and_split hc).2
            cases this
  | .cons k1 (.cons v1 r1), ks, vs, fs, c, P, ρ, M, H, σ, R, Q, hz, hc, hE, hR, hw, k => by
    cases ks with
    | nil => cases vs with
      | nil => cases hz; cases hc
      | cons _ _ => cases hz
    | cons x ks => cases x with
      | none => cases vs <;> cases hz
      | some x => cases vs with
        | nil => cases hz
        | cons v vs =>
          have hz : (zipKV ks vs).map (fun r => x :: v :: r) = some fs := hz
          cases e : zipKV ks vs with
          | none => rw [e] at hz; cases hz
          | some r =>
            rw [e] at hz; cases hz
            have hc2 : chkL c r1 r = true := by
              unfold chkL at hc
              have := (and_split hc).2
              unfold chkL at this
              exact (and_split this).2
            refine ⟨P, ρ, M, _, hE, hR, hw, fun x M1 h1 v1' H1 e1 r1' p1 => ?_⟩
            refine ⟨P, ρ, M1, _, hE.ext e1, r1', h1, fun y M2 h2 v2 H2 e2 r2 p2 => ?_⟩
            refine pairs_lift r1 ks e hc2 ((hE.ext e1).ext e2) r2 h2 fun ds M3 h3 kv H3 hl e3 r3 p3 p4 => ?_
            exact k _ _ h3 _ _ (congrArg (· + 1) hl) ((e1.trans e2).trans e3) r3 (.cons ((p1.ext e2).ext e3) p3) (.cons (p2.ext e3) p4)
/-- what the pairs make -/
theorem merge_rep {F : Wd} {H : Hp} {M : Mp} : ∀ {ks ds : List D} {kv : List (V × V)} {acc : List (Key × D)} {acv : List (Key × V)} {kvs : List (Key × D)}, Reps F H M ks (kv.map (·.1)) → Reps F H M ds (kv.map (·.2)) → RepK F H M acc acv → mergeD ks ds acc = some kvs →
    ∃ ps : List (Key × V), kv = ps.map (fun p => (kV p.1, p.2)) ∧ RepK F H M kvs (mergeK acv ps) ∧ ps.length = ks.length
  | [], [], kv, acc, acv, kvs, h1, h2, h3, h => by
    cases kv with
    | nil => cases h; exact ⟨[], rfl, h3, rfl⟩
    | cons _ _ => cases h1
  | [], _ :: _, kv, acc, acv, kvs, h1, h2, h3, h => by cases h
  | k :: ks, [], kv, acc, acv, kvs, h1, h2, h3, h => by cases h
  | k :: ks, d :: ds, kv, acc, acv, kvs, h1, h2, h3, h => by
    cases kv with
    | nil => cases h1
    | cons p kv =>
      cases h1 with
      | cons a1 b1 =>
        cases h2 with
        | cons a2 b2 =>
          have h : (match keyD k with | some k => mergeD ks ds (putKD acc k d) | none => none) = some kvs := h
          cases e : keyD k with
          | none => rw [e] at h; cases h
          | some kk =>
            rw [e] at h
            obtain ⟨ps, e1, e2, e3⟩ := merge_rep b1 b2 (h3.put a2 (k := kk)) h
            refine ⟨(kk, p.2) :: ps, ?_, e2, by rw [List.length_cons, List.length_cons, e3]⟩
            rw [List.map_cons, ← e1, ← keyRep a1 e]
theorem zip_some {ks : List (Option Expr)} : ∀ {vs fs : List Expr}, zipKV ks vs = some fs → ks.all (·.isSome) = true ∧ ks.length = vs.length := by
  induction ks with
  | nil => intro vs fs h; cases vs with
    | nil => exact ⟨rfl, rfl⟩
    | cons _ _ => cases h
  | cons x ks ih =>
    intro vs fs h
    cases x with
    | none => cases vs <;> cases h
    | some x => cases vs with
      | nil => cases h
      | cons v vs =>
        have h : (zipKV ks vs).map (fun r => x :: v :: r) = some fs := h
        cases e : zipKV ks vs with
        | none => rw [e] at h; cases h
        | some r => obtain ⟨a, b⟩ := ih e; exact ⟨by rw [List.all_cons, a]; rfl, by rw [List.length_cons, List.length_cons, b]⟩
theorem len_of_chk : ∀ (es : EL) {c : CT} {fs : List Expr} , chkL c es fs = true → fs.length = elLen es := fun es {c fs} h => chkL_len h
theorem Good.calmW {G : Gam} {an : An} {W : XW} {c : CT} {X : Cx} (g : Good G an W c X) (hh : c.hot = false) : Good G .top (fun _ _ _ => False) c X := by
  refine ⟨g.N, g.sc, g.ws, g.nd, g.units, g.calm, g.room, g.blt, g.cst, g.fn, g.mt, g.fl, g.exc, fun _ u s' h => ?_, g.sub, g.xf, g.xi, fun a x e hz => ?_, g.fr⟩
  · obtain ⟨_, _, _, _, _, _, _, _, _, _, _, _, _, _, _, _, _, _, _, _, _, _, _, z⟩ := h
    exact z.elim
  · rw [hh] at hz; cases hz
theorem cond_m1 {X : Cx} {o e : Expr} {m : Str} {apos cpos : Pos} (h0 : (!isCall0 o) = true) (hl : (apos.endLine == cpos.line) = true) (hs : (!isStar e) = true) : M1 X o m apos e cpos := by
  have t : starEach [e] X.env = [(false, eval e X.env)] := star_of hs
  refine ⟨base_of h0, ?_, hl, by rw [t]; rfl⟩
  rw [t]; rfl
theorem cond_m2 {X : Cx} {o e f : Expr} {m : Str} {apos cpos : Pos} (h0 : (!isCall0 o) = true) (hl : (apos.endLine == cpos.line) = true) (hs : (!isStar e) = true) (hf : (!isStar f) = true) : M2 X o m apos e f cpos := by
  have t : starEach [e, f] X.env = [(false, eval e X.env), (false, eval f X.env)] := by rw [star_of hs, star_of hf]; rfl
  refine ⟨base_of h0, ?_, hl, by rw [t]; rfl⟩
  rw [t]; rfl
theorem dc_get {X : Cx} {an : An} {P : Addr → Prop} {H : Hp} {M : Mp} {x y : D} {v u : V} {kvs : List (Key × D)} {k : Key} (px : Rep (wd X an P) H M x v) (py : Rep (wd X an P) H M y u) (r : RelH (wd X an P) H M) (h : dcOf M x = some kvs) (hk : keyD y = some k) :
    ∃ a vs, v = .ref a ∧ DGet H a u (valV vs k) ∧ IsD H a ∧ RepK (wd X an P) H M kvs vs := by
  obtain ⟨a, vs, rfl, h1, h2⟩ := dcRep px r h
  exact ⟨a, vs, rfl, .inl ⟨vs, k, h1, keyRep py hk, rfl⟩, .inl ⟨vs, h1⟩, h2⟩
theorem getD_rep {F : Wd} {H : Hp} {M : Mp} {kvs : List (Key × D)} {vs : List (Key × V)} {k : Key} {d : D} {v : V} (r : RepK F H M kvs vs) (p : Rep F H M d v) : Rep F H M ((valD kvs k).getD d) ((valV vs k).getD v) := by
  cases e : valD kvs k with
  | none => rw [r.none e]; exact p
  | some x => obtain ⟨w, e1, e2⟩ := r.some e; rw [e1]; exact e2
/-- an argument list, and how many there are -/
def liftAn (X : Cx) (an : An) (n : Nat) (r : TAD) : TA := fun σ H Q => ∃ P ρ M R, RepE (wd X an P) H M ρ σ ∧ RelH (wd X an P) H M ∧ r ρ M R ∧
  ∀ ds M', R ds M' → ∀ vs H', ds.length = n → Ext H M H' M' → RelH (wd X an P) H' M' → Reps (wd X an P) H' M' ds vs → Q vs H'
theorem liftA_n {X : Cx} {an : An} {n : Nat} {r : TAD} : ∀ (σ : L2.St) (H : Hp) (Q : List V → Hp → Prop), liftA X an r σ H Q → liftAn X an n r σ H Q := by
  rintro σ H Q ⟨P, ρ, M, R, hE, hR, hw, k⟩
  exact ⟨P, ρ, M, R, hE, hR, hw, fun ds M' hd vs H' _ e r p => k ds M' hd vs H' e r p⟩
theorem line1000 {n : Nat} (h : n ≤ 1000) : n ≤ sizeLine := Nat.le_trans h (by decide)
/-- o.f = .., by values -/
def gAtt (K : PySem.W.Frag) (f : Str) (to : TE) : TG := fun v σ H Q => to σ H fun x H1 => ∃ a C dx fs, x = .ref a ∧ H1 a = some (.ins C dx fs) ∧ Cls K C ∧ NoAttr K C f ∧ fs.length < 1000 ∧ Q σ (upd H1 a (.ins C dx (putF f v fs)))
theorem pg_att {X : Cx} {o : Expr} {f : Str} {pos : Pos} {to : TE} (ho : PE X o to) : PG X (.Attribute o f pos) (gAtt X.K f to) := by
  refine ⟨fun pins s σ H v u Q I r h => ?_⟩
  show wpAny _ _ (do
    let ov ← holding [u] (eval o X.env)
    standAt pos.atName
    holding [u, ov] (setAttr ov f u)
    release [u, ov] []) _ _ _
  refine wpAny_bind (wpAny_holding (thn (ho.run pins s σ H _ I h) fun ov s1 ⟨x, H1, I1, r1, q1⟩ => ?_))
  obtain ⟨a, C, dx, fs, rfl, h1, h2, h3, h4, q⟩ := q1
  obtain rfl : ov = Value.ref a := r1
  refine wpAny_bind (wpAny_standAt (wpAny_bind (wpAny_holding ?_)))
  exact setattr_ok I1 h1 h2 h3 h4 r fun s' I' => wpAny_release ⟨σ, _, I', q⟩
section
variable {G : Gam}
mutual
theorem sndE : ∀ (e : E) {an : An} {W : XW} {c : CT} {X : Cx} {e' : Expr}, Good G an W c X → chkE c e e' = true → PE X e' (lift X an (wpE G W e)) ∧ (okT e = true → PT X e' (liftT X an (wpT G W e)))
  | .var i, an, W, c, X, e', g, h => by
    unfold chkE at h; split at h
    · obtain ⟨h1, h2, h3, h4⟩ := vis_of g h
      refine mkE (PE.imp (pe_var h1 h2 h3 h4) ?_) (by intro _; rfl)
      rintro σ H Q ⟨P, ρ, M, R, hE, hR, hw, k⟩
      unfold wpE at hw
      split at hw
      · rename_i e
        obtain ⟨v, a1, a2⟩ := hE.2 i _ (slot_get e)
        exact ⟨v, a1, Cont.here k hR hw a2⟩
      · exact hw.elim
    · cases h
  | .int i, an, W, c, X, e', g, h => by
    unfold chkE at h; split at h
    · refine mkE (PE.imp pe_int ?_) (by intro _; rfl)
      rintro σ H Q ⟨P, ρ, M, R, hE, hR, hw, k⟩
      have e := of_decide_eq_true h
      subst e
      exact Cont.here k hR hw (.int _)
    · cases h
  | .bl i, an, W, c, X, e', g, h => by
    unfold chkE at h; split at h
    · refine mkE (PE.imp pe_bl ?_) (by intro _; rfl)
      rintro σ H Q ⟨P, ρ, M, R, hE, hR, hw, k⟩
      have e := of_decide_eq_true h
      subst e
      exact Cont.here k hR hw (.bl _)
    · cases h
  | .non, an, W, c, X, e', g, h => by
    unfold chkE at h; split at h
    · refine mkE (PE.imp pe_non ?_) (by intro _; rfl)
      rintro σ H Q ⟨P, ρ, M, R, hE, hR, hw, k⟩
      exact Cont.here k hR hw .non
    · cases h
  | .str i, an, W, c, X, e', g, h => by
    unfold chkE at h; split at h
    · refine mkE (PE.imp pe_str ?_) (by intro _; rfl)
      rintro σ H Q ⟨P, ρ, M, R, hE, hR, hw, k⟩
      have e := of_decide_eq_true h
      subst e
      exact Cont.here k hR hw (.str _)
    · cases h
  | .cst y, an, W, c, X, e', g, h => by
    unfold chkE at h; split at h
    · obtain ⟨h1, h2⟩ := and_split h
      have e := of_decide_eq_true h2
      obtain ⟨h3, h4⟩ := gl_of g h1
      refine mkE ?_ (by intro _; rfl)
      cases hc : nth G.cst y with
      | none =>
        refine PE.imp (t := fun _ _ _ => False) ⟨fun _ _ _ _ _ _ z => z.elim⟩ ?_
        rintro σ H Q ⟨P, ρ, M, R, hE, hR, hw, k⟩
        unfold wpE at hw
        rw [hc] at hw
        exact hw.elim
      | some d =>
        obtain ⟨v, u, a1, a2, a3⟩ := g.cst _ _ _ e hc
        refine PE.imp (pe_glob h3 a1 a2 h4) ?_
        rintro σ H Q ⟨P, ρ, M, R, hE, hR, hw, k⟩
        unfold wpE at hw
        rw [hc] at hw
        exact Cont.here k hR hw (a3 an P H M)
    · cases h
  | .bin m op a b, an, W, c, X, e', g, h => by
    unfold chkE at h; split at h
    · obtain ⟨h, h3⟩ := and_split h
      obtain ⟨h1, h2⟩ := and_split h
      have e := of_decide_eq_true h1
      subst e
      exact mkE (PE.imp (pe_op (binD_ok (an := an) m op) (sndE a g h2).1 (sndE b g h3).1) tOp_lift) (by intro _; rfl)
    · cases h
  | .neg a, an, W, c, X, e', g, h => by
    unfold chkE at h; split at h
    · refine mkE (PE.imp (pe_un un_neg (sndE a g h).1) ?_) (by intro _; rfl)
      rintro σ H Q ⟨P, ρ, M, R, hE, hR, hw, k⟩
      refine ⟨P, ρ, M, _, hE, hR, hw, fun x M1 h1 v1 H1 e1 r1 p1 => ?_⟩
      cases p1 with
      | int i => exact ⟨i, rfl, k _ _ h1 _ _ e1 r1 (.int _)⟩
      | _ => exact h1.elim
    · cases h
  | .cmp op a b, an, W, c, X, e', g, h => by
    unfold chkE at h; split at h
    · obtain ⟨h, h4⟩ := and_split h
      obtain ⟨h, h3⟩ := and_split h
      obtain ⟨h1, h2⟩ := and_split h
      have e := of_decide_eq_true h1
      subst e
      have ho := cmpD_ok (X := X) (an := an) op g.units
      refine ⟨PE.imp (pe_cmpR ho (sndE a g h2).1 (sndE b g h3).1 (marks_of h4)) tOp_lift, fun _ => PT.imp (pt_cmpR ho (sndE a g h2).1 (sndE b g h3).1 (marks_of h4)) ?_⟩
      rintro σ H Q ⟨P, ρ, M, R, hE, hR, hw, k⟩
      refine tOp_lift σ H _ ⟨P, ρ, M, _, hE, hR, hw, fun x M1 h1 v1 H1 e1 r1 p1 => ?_⟩
      cases p1 with
      | bl b => exact ⟨b, rfl, k b M1 h1 H1 e1 r1⟩
      | _ => exact h1.elim
    · cases h
  | .chain op op2 a b d, an, W, c, X, e', g, h => by
    unfold chkE at h; split at h
    · obtain ⟨h, h7⟩ := and_split h
      obtain ⟨h, h6⟩ := and_split h
      obtain ⟨h, h5⟩ := and_split h
      obtain ⟨h, h4⟩ := and_split h
      obtain ⟨h, h3⟩ := and_split h
      obtain ⟨h1, h2⟩ := and_split h
      have e1 := of_decide_eq_true h1
      have e2 := of_decide_eq_true h2
      subst e1; subst e2
      have ho := cmpD_ok (X := X) (an := an) op g.units
      have ho2 := cmpD_ok (X := X) (an := an) op2 g.units
      have hm := fun (z : Expr) => show lastMarks [op, op2] [z, _] = false from marks_of (op := op2) h7
      have key : ∀ (σ : L2.St) (H : Hp) (Q : VK), lift X an (wpE G W (.chain op op2 a b d)) σ H Q → tChain (lift2 X an (cmpD op)) (lift2 X an (cmpD op2)) (lift X an (wpE G W a)) (lift X an (wpE G W b)) (lift X an (wpE G W d)) σ H Q := by
        rintro σ H Q ⟨P, ρ, M, R, hE, hR, hw, k⟩
        refine ⟨P, ρ, M, _, hE, hR, hw, fun x M1 h1 v1 H1 e1 r1 p1 => ?_⟩
        refine ⟨P, ρ, M1, _, hE.ext e1, r1, h1, fun y M2 h2 v2 H2 e2 r2 p2 => ?_⟩
        refine ⟨P, x, y, M2, _, p1.ext e2, p2, r2, h2, fun z M3 h3 v3 H3 e3 r3 p3 => ?_⟩
        have e13 := (e1.trans e2).trans e3
        cases p3 with
        | bl t =>
          refine ⟨t, rfl, ?_⟩
          cases t with
          | true =>
            refine ⟨P, ρ, M3, _, hE.ext e13, r3, h3, fun w M4 h4 v4 H4 e4 r4 p4 => ?_⟩
            exact ⟨P, y, w, M4, R, (p2.ext e3).ext e4, p4, r4, h4, fun d M' hd v H' e r p => k d M' hd v H' ((e13.trans e4).trans e) r p⟩
          | false => exact k _ _ h3 _ _ e13 r3 (.bl _)
        | _ => exact h3.elim
      refine ⟨PE.imp (pe_chain ho ho2 (sndE a g h3).1 (sndE b g h4).1 (sndE d g h5).1 (hm _)) key, fun _ => PT.imp (pt_chain ho ho2 (sndE a g h3).1 (sndE b g h4).1 (sndE d g h5).1 (hm _)) ?_⟩
      rintro σ H Q ⟨P, ρ, M, R, hE, hR, hw, k⟩
      refine key σ H _ ⟨P, ρ, M, _, hE, hR, hw, fun x M1 h1 v1 H1 e1 r1 p1 => ?_⟩
      cases p1 with
      | bl b => exact ⟨b, rfl, k b M1 h1 H1 e1 r1⟩
      | _ => exact h1.elim
    · cases h
  | .and a b, an, W, c, X, e', g, h => by
    unfold chkE at h; split at h
    · obtain ⟨h1, h2⟩ := and_split h
      refine ⟨and_E (sndE a g h1).1 (pe_one (sndE b g h2).1), fun ok => ?_⟩
      unfold okT at ok
      obtain ⟨o1, o2⟩ := and_split ok
      exact and_T ((sndE a g h1).2 o1) (one_T ((sndE b g h2).2 o2))
    · obtain ⟨h1, h2⟩ := and_split h
      refine ⟨and_E (sndE a g h1).1 (sndE b g h2).1, fun ok => ?_⟩
      unfold okT at ok
      obtain ⟨o1, o2⟩ := and_split ok
      exact and_T ((sndE a g h1).2 o1) ((sndE b g h2).2 o2)
    · cases h
  | .or a b, an, W, c, X, e', g, h => by
    unfold chkE at h; split at h
    · obtain ⟨h1, h2⟩ := and_split h
      refine ⟨or_E (sndE a g h1).1 (pe_one (sndE b g h2).1), fun ok => ?_⟩
      unfold okT at ok
      obtain ⟨o1, o2⟩ := and_split ok
      exact or_T ((sndE a g h1).2 o1) (one_T ((sndE b g h2).2 o2))
    · obtain ⟨h1, h2⟩ := and_split h
      refine ⟨or_E (sndE a g h1).1 (sndE b g h2).1, fun ok => ?_⟩
      unfold okT at ok
      obtain ⟨o1, o2⟩ := and_split ok
      exact or_T ((sndE a g h1).2 o1) ((sndE b g h2).2 o2)
    · cases h
  | .not a, an, W, c, X, e', g, h => by
    unfold chkE at h; split at h
    · refine ⟨PE.imp (pe_not (sndE a g h).1) ?_, fun ok => PT.imp (pt_not ((sndE a g h).2 ok)) ?_⟩
      · rintro σ H Q ⟨P, ρ, M, R, hE, hR, hw, k⟩
        refine ⟨P, ρ, M, _, hE, hR, hw, fun x M1 h1 v1 H1 e1 r1 p1 => ?_⟩
        cases p1 with
        | bl b => exact ⟨b, rfl, k _ _ h1 _ _ e1 r1 (.bl _)⟩
        | _ => exact h1.elim
      · rintro σ H Q ⟨P, ρ, M, R, hE, hR, hw, k⟩
        rw [wpT_not] at hw
        exact ⟨P, ρ, M, _, hE, hR, hw, fun t M1 h1 H1 e1 r1 => k _ _ h1 _ e1 r1⟩
    · cases h
  | .ife t a b, an, W, c, X, e', g, h => by
    unfold chkE at h; split at h
    · obtain ⟨h, h4⟩ := and_split h
      obtain ⟨h, h3⟩ := and_split h
      obtain ⟨h1, h2⟩ := and_split h
      refine ⟨PE.imp (pe_ifExp ((sndE t g h2).2 h1) (sndE a g h3).1 (sndE b g h4).1) ?_, fun ok => by cases ok⟩
      rintro σ H Q ⟨P, ρ, M, R, hE, hR, hw, k⟩
      have hw' : wpT G W t ρ M (fun z M1 => match z with
        | true => wpE G W a ρ M1 R
        | false => wpE G W b ρ M1 R) := by
        have : wpE G W (.ife t a b) ρ M R = wpT G W t ρ M (fun z M1 => match z with
          | true => wpE G W a ρ M1 R
          | false => wpE G W b ρ M1 R) := by
          show wpE G W t ρ M _ = wpE G W t ρ M _
          congr 1
          funext x M1
          cases x with
          | bl z => cases z <;> rfl
          | _ => rfl
        rw [this] at hw
        exact hw
      refine ⟨P, ρ, M, _, hE, hR, hw', fun z M1 h1 H1 e1 r1 => ?_⟩
      cases z with
      | true => exact ⟨P, ρ, M1, R, hE.ext e1, r1, h1, fun d M' hd v H' e r p => k d M' hd v H' (e1.trans e) r p⟩
      | false => exact ⟨P, ρ, M1, R, hE.ext e1, r1, h1, fun d M' hd v H' e r p => k d M' hd v H' (e1.trans e) r p⟩
    · cases h
  | .tup es, an, W, c, X, e', g, h => by
    unfold chkE at h; split at h
    · obtain ⟨h1, h2⟩ := and_split h
      refine mkE (PE.imp (pe_tup (sndL es g h1)) ?_) (by intro _; rfl)
      rintro σ H Q ⟨P, ρ, M, R, hE, hR, hw, k⟩
      refine ⟨P, ρ, M, _, hE, hR, hw, fun ds M1 h1' vs H1 hl e1 r1 p1 => ⟨?_, ?_⟩⟩
      · rw [← p1.length, hl, ← chkL_len h1]
        exact line1000 (of_decide_eq_true h2)
      · exact newT_ok (fun d M' hd v H' e r p => k d M' hd v H' (e1.trans e) r p) r1 h1' p1
    · cases h
  | .lst m es, an, W, c, X, e', g, h => by
    unfold chkE at h; split at h
    · obtain ⟨h1, h2⟩ := and_split h
      refine mkE (PE.imp (pe_lst (sndL es g h1)) ?_) (by intro _; rfl)
      rintro σ H Q ⟨P, ρ, M, R, hE, hR, hw, k⟩
      refine ⟨P, ρ, M, _, hE, hR, hw, fun ds M1 h1' vs H1 hl e1 r1 p1 => ⟨?_, ?_⟩⟩
      · rw [← p1.length, hl, ← chkL_len h1]
        exact line1000 (of_decide_eq_true h2)
      · exact newL_ok (fun d M' hd v H' e r p => k d M' hd v H' (e1.trans e) r p) r1 h1' p1
    · cases h
  | .ix a i, an, W, c, X, e', g, h => by
    unfold chkE at h; split at h
    · obtain ⟨h, h3⟩ := and_split h
      obtain ⟨h1, h2⟩ := and_split h
      exact mkE (PE.imp (pe_ix (ixD_ok (an := an) g.units) (sndE a g h1).1 (sndE i g h2).1 (plainIx_of h3)) tOp_lift) (by intro _; rfl)
    · cases h
  | .sl m a lo hi, an, W, c, X, e', g, h => by
    unfold chkE at h; split at h
    · obtain ⟨h, h3⟩ := and_split h
      obtain ⟨h1, h2⟩ := and_split h
      refine mkE (PE.imp (pe_slice (slD_ok (an := an) m) (sndE a g h1).1 (sndO lo g h2) (sndO hi g h3)) ?_) (by intro _; rfl)
      rintro σ H Q ⟨P, ρ, M, R, hE, hR, hw, k⟩
      refine ⟨P, ρ, M, _, hE, hR, hw, fun x M1 h1 v1 H1 e1 r1 p1 => ?_⟩
      refine ⟨P, ρ, M1, _, hE.ext e1, r1, h1, fun l M2 h2 H2 e2 r2 => ?_⟩
      refine ⟨P, ρ, M2, _, (hE.ext e1).ext e2, r2, h2, fun u M3 h3 H3 e3 r3 => ?_⟩
      exact ⟨P, x, M3, R, (p1.ext e2).ext e3, r3, h3, fun d M' hd v H' e r p => k d M' hd v H' (((e1.trans e2).trans e3).trans e) r p⟩
    · cases h
  | .fld a f, an, W, c, X, e', g, h => by
    unfold chkE at h; split at h
    · obtain ⟨h, h3⟩ := and_split h
      obtain ⟨h1, h2⟩ := and_split h
      have e := of_decide_eq_true h2
      subst e
      refine mkE (PE.imp (pe_fld (sndE a g h1).1 (base_of h3)) ?_) (by intro _; rfl)
      rintro σ H Q ⟨P, ρ, M, R, hE, hR, hw, k⟩
      refine ⟨P, ρ, M, _, hE, hR, hw, fun x M1 h1 v1 H1 e1 r1 p1 => ?_⟩
      split at h1
      · rename_i e2
        obtain ⟨b1, b2⟩ := h1
        split at b2
        · rename_i e3
          obtain ⟨q, C, dx, vs, rfl, q1, q2, q3⟩ := flds_rep p1 r1 e2
          obtain ⟨C', z1, z2, z3⟩ := g.fl _ _ b1
          obtain rfl := Cls.of_mg q2 z1
          obtain ⟨v, q4, q5⟩ := q3.look e3
          exact ⟨q, C, dx, vs, v, rfl, q1, z2, z3, q4, k _ _ b2 _ _ e1 r1 q5⟩
        · exact b2.elim
      · exact h1.elim
    · cases h
  | .call f es, an, W, c, X, e', g, h => by
    unfold chkE at h; split at h
    · rename_i x p1 es' p2
      obtain ⟨h, hh⟩ := and_split h
      have hh := not_of_not hh
      obtain ⟨h, h3⟩ := and_split h
      obtain ⟨h1, h2⟩ := and_split h
      have e := of_decide_eq_true h2
      obtain ⟨b1, b2⟩ := gl_of g h1
      refine mkE ?_ (by intro _; rfl)
      cases hc : nth G.fn f with
      | none =>
        refine PE.imp (t := fun _ _ _ => False) ⟨fun _ _ _ _ _ _ z => z.elim⟩ ?_
        rintro σ H Q ⟨P, ρ, M, R, hE, hR, hw, k⟩
        unfold wpE at hw
        rw [hc] at hw
        exact hw.elim
      | some nsp =>
        obtain ⟨n, sp⟩ := nsp
        obtain ⟨fa, a1, ⟨k, fd, ps, F, hr, hb⟩, kp⟩ := g.fn hh _ _ _ _ e hc
        have key : ∀ (σ : L2.St) (H : Hp) (Q : VK), lift X an (wpE G W (.call f es)) σ H Q → tCallS (liftSp X.K X.mg n sp) (WE (liftX X an W)) (liftAn X an (elLen es) (wpL G W es)) σ H Q := by
          rintro σ H Q ⟨P, ρ, M, R, hE, hR, hw, k⟩
          unfold wpE at hw
          rw [hc] at hw
          refine ⟨P, ρ, M, _, hE, hR, hw, fun ds M1 h1 vs H1 hl e1 r1 p1 => ?_⟩
          exact sp_lift h1.1 (hE.ext e1) r1 p1 h1.2 e1 k
        cases es' with
        | nil =>
          refine PE.imp (pe_callS0 F hr b1 a1 kp hb (fun σ => passAt (g.tk hh) σ) b2) fun σ H Q hq => ?_
          obtain ⟨P, ρ, M, R, hE, hR, hw, k⟩ := key σ H Q hq
          cases es with
          | nil => exact k _ _ hw _ _ rfl .refl hR .nil
          | cons _ _ => cases h3
        | cons e1 es1 =>
          have hs := chkL_stars h3
          unfold noStars at hs
          obtain ⟨s1, s2⟩ := and_split hs
          exact PE.imp (pe_callS F hr b1 a1 kp hb (fun σ => passAt (g.tk hh) σ) (sndL es g h3) b2 (star_of s1) (stars_none s2)) key
    · cases h
  | .meth i a es, an, W, c, X, e', g, h => by
    unfold chkE at h; split at h
    · rename_i a' f' apos es' cpos
      obtain ⟨h, hh⟩ := and_split h
      have hh := not_of_not hh
      obtain ⟨h, h6⟩ := and_split h
      obtain ⟨h, h5⟩ := and_split h
      obtain ⟨h, h4⟩ := and_split h
      obtain ⟨h, h3⟩ := and_split h
      obtain ⟨h1, h2⟩ := and_split h
      have e := of_decide_eq_true h2
      refine mkE ?_ (by intro _; rfl)
      have hform := call_form (env := X.env) (m := f') h4 (chkL_stars h3) h5 (of_decide_eq_true h6)
      cases hc : nth G.mt i with
      | none =>
        refine PE.imp (t := fun _ _ _ => False) ⟨fun _ _ _ _ _ _ z => z.elim⟩ ?_
        rintro σ H Q ⟨P, ρ, M, R, hE, hR, hw, k⟩
        unfold wpE at hw
        rw [hc] at hw
        exact hw.elim
      | some nsp =>
        obtain ⟨kc, f, n, sp⟩ := nsp
        obtain ⟨⟨k2, f2⟩, e5, e6⟩ := Option.map_eq_some_iff.mp e
        subst e6
        obtain ⟨rfl, rfl, C, fa, a1, a2, a3, ⟨⟨k, fd, ps, F, hr, hb⟩, kp⟩, mk⟩ := g.mt hh _ _ _ _ _ _ _ e5 hc
        have key : ∀ (σ : L2.St) (H : Hp) (Q : VK), lift X an (wpE G W (.meth i a es)) σ H Q → tMethS C f2 (liftSp X.K X.mg n sp) (WE (liftX X an W)) (lift X an (wpE G W a)) (liftAn X an (elLen es) (wpL G W es)) σ H Q := by
          rintro σ H Q ⟨P, ρ, M, R, hE, hR, hw, k⟩
          unfold wpE at hw
          rw [hc] at hw
          refine ⟨P, ρ, M, _, hE, hR, hw, fun x M1 h1 v1 H1 e1 r1 p1 => ?_⟩
          split at h1
          · rename_i e2
            obtain ⟨rfl, l, h1⟩ := h1
            obtain ⟨q, C', dx, vs, rfl, q1, q2, q3⟩ := flds_rep p1 r1 e2
            obtain rfl := Cls.of_mg q2 a1
            refine ⟨q, dx, vs, rfl, q1, q3.lookN l, P, ρ, M1, _, hE.ext e1, r1, h1, fun ds M2 h2 us H2 hl e2 r2 p2 => ?_⟩
            exact sp_lift (ds := x :: ds) h2.1 ((hE.ext e1).ext e2) r2 (.cons (p1.ext e2) p2) h2.2 (e1.trans e2) k
          · exact h1.elim
        cases es' with
        | nil =>
          refine PE.imp (pe_methS0 (sndE a g h1).1 a2 a3 F (hr.mono (Nat.le_succ _)) hb (fun σ => passAt (g.tk hh) σ) hform) fun σ H Q hq => ?_
          obtain ⟨P, ρ, M, R, hE, hR, hw, k⟩ := key σ H Q hq
          refine ⟨P, ρ, M, R, hE, hR, hw, fun x M1 h1' v1 H1 e1 r1 p1 => ?_⟩
          obtain ⟨q, dx, vs, z1, z2, z3, P2, ρ2, M2, R2, hE2, hR2, hw2, k2⟩ := k x M1 h1' v1 H1 e1 r1 p1
          refine ⟨q, dx, vs, z1, z2, z3, ?_⟩
          cases es with
          | nil => exact k2 _ _ hw2 _ _ rfl .refl hR2 .nil
          | cons _ _ => cases h3
        | cons e1 es1 =>
          have hs := chkL_stars h3
          unfold noStars at hs
          obtain ⟨s1, s2⟩ := and_split hs
          exact PE.imp (pe_methS (sndE a g h1).1 a2 a3 F (hr.mono (Nat.le_succ _)) hb (fun σ => passAt (g.tk hh) σ) (sndL es g h3) (star_of s1) (stars_none s2) hform) key
    · cases h
  | .new z kc es, an, W, c, X, e', g, h => by
    unfold chkE at h; split at h
    · rename_i x p1 es' p2
      obtain ⟨h, hh⟩ := and_split h
      have hh := not_of_not hh
      obtain ⟨h, h3⟩ := and_split h
      obtain ⟨h1, h2⟩ := and_split h
      have e := of_decide_eq_true h2
      obtain ⟨b1, b2⟩ := gl_of g h1
      refine mkE ?_ (by intro _; rfl)
      cases hc : nth G.mt kc with
      | none =>
        refine PE.imp (t := fun _ _ _ => False) ⟨fun _ _ _ _ _ _ z => z.elim⟩ ?_
        rintro σ H Q ⟨P, ρ, M, R, hE, hR, hw, k⟩
        unfold wpE at hw
        rw [hc] at hw
        exact hw.elim
      | some nsp =>
        obtain ⟨kk, mm, n, sp⟩ := nsp
        obtain ⟨rfl, rfl, C, fa, a1, a2, a3, ⟨⟨k, fd, ps, F, hr, hb⟩, kp⟩, mk⟩ := g.mt hh _ _ _ _ _ _ _ e hc
        have MK := mk rfl
        have key : ∀ (σ : L2.St) (H : Hp) (Q : VK), lift X an (wpE G W (.new z kc es)) σ H Q → tMakeS C (liftSp X.K X.mg n sp) (WE (liftX X an W)) (liftAn X an (elLen es) (wpL G W es)) σ H Q := by
          rintro σ H Q ⟨P, ρ, M, R, hE, hR, hw, k⟩
          unfold wpE at hw
          rw [hc] at hw
          refine ⟨P, ρ, M, _, hE, hR, hw, fun ds M1 h1 vs H1 hl e1 r1 p1 => ?_⟩
          intro q dx hq hdx ne
          have hq' : (upd H1 dx (HO.own q)) q = none := by rw [upd_ne (Ne.symm ne)]; exact hq
          have e2 : Ext H1 M1 (upd (upd H1 dx (.own q)) q (.ins C dx [])) (mset M1 q (.ins x [])) := (Ext.newF hdx).trans (Ext.new hq' (r1.free hq))
          have r2 : RelH (wd X an P) (upd (upd H1 dx (.own q)) q (.ins C dx [])) (mset M1 q (.ins x [])) := (r1.newF hdx).new hq' ⟨C, dx, [], upd_same, a1, .nil⟩
          refine sp_lift (H0 := H) (M0 := M) (ds := .ref q :: ds) h1.1 ((hE.ext e1).ext e2) r2 (.cons (.ref q) (p1.ext e2)) (h1.2 q (r1.free hq)) (e1.trans e2) ?_
          intro d M' hd v H' e r p
          obtain ⟨hn, hi⟩ := hd
          have := isN_eq hn
          subst this
          cases p
          refine ⟨rfl, ?_⟩
          unfold newI at hi
          split at hi
          · exact k _ _ hi _ _ e r (.ref q)
          · split at hi
            · rename_i em
              obtain ⟨C', dx', us, z1, z2, z3⟩ := r.ob _ _ em
              refine k _ _ hi _ _ (e.trans Ext.give) r.give (.ins z1 mdel_same (fun pp => ?_) z2 (z3.ext Ext.give))
              have := (r.pv q pp).1
              rw [em] at this; cases this
            · exact hi.elim
        cases es' with
        | nil =>
          refine PE.imp (pe_makeS0 MK F hr b1 a1 hb (fun σ => passAt (g.tk hh) σ) b2) fun σ H Q hq => ?_
          obtain ⟨P, ρ, M, R, hE, hR, hw, k⟩ := key σ H Q hq
          cases es with
          | nil => exact k _ _ hw _ _ rfl .refl hR .nil
          | cons _ _ => cases h3
        | cons e1 es1 =>
          have hs := chkL_stars h3
          unfold noStars at hs
          obtain ⟨s1, s2⟩ := and_split hs
          exact PE.imp (pe_makeS MK F hr b1 a1 hb (fun σ => passAt (g.tk hh) σ) (sndL es g h3) b2 (star_of s1) (stars_none s2)) key
    · cases h
  | .blt m f es, an, W, c, X, e', g, h => by
    unfold chkE at h; split at h
    · rename_i x p1 e1 es' p2
      obtain ⟨h, hh⟩ := and_split h
      have hh := not_of_not hh
      obtain ⟨h, h3⟩ := and_split h
      obtain ⟨h1, h2⟩ := and_split h
      have e := of_decide_eq_true h2
      subst e
      obtain ⟨b1, b2⟩ := gl_of g h1
      have hs := chkL_stars h3
      unfold noStars at hs
      obtain ⟨s1, s2⟩ := and_split hs
      refine mkE (PE.imp (pe_callB (bltD_ok (an := an) (g.calm hh) g.units m f) b1 (g.blt _ (mem_bf f).1) (boot_bf f) (sndL es g h3) (mem_bf f).2 b2 (star_of s1) (stars_none s2)) ?_) (by intro _; rfl)
      exact fun σ H Q hq => by
        obtain ⟨P, ρ, M, R, hE, hR, hw, k⟩ := hq
        exact ⟨P, ρ, M, _, hE, hR, hw, fun ds M1 h1 vs H1 hl e1 r1 p1 => ⟨P, ds, M1, R, p1, r1, h1, fun d M' hd v H' e r p => k d M' hd v H' (e1.trans e) r p⟩⟩
    · cases h
  | .bty m f es, an, W, c, X, e', g, h => by
    unfold chkE at h; split at h
    · rename_i x p1 e1 es' p2
      obtain ⟨h, h3⟩ := and_split h
      obtain ⟨h1, h2⟩ := and_split h
      have e := of_decide_eq_true h2
      subst e
      obtain ⟨b1, b2⟩ := gl_of g h1
      have hs := chkL_stars h3
      unfold noStars at hs
      obtain ⟨s1, s2⟩ := and_split hs
      refine mkE (PE.imp (pe_callTy (btyD_ok (an := an) m f) b1 (g.blt _ (mem_bt f).1) (boot_bt f) (sndL es g h3) (mem_bt f).2 b2 (star_of s1) (stars_none s2)) ?_) (by intro _; rfl)
      exact fun σ H Q hq => by
        obtain ⟨P, ρ, M, R, hE, hR, hw, k⟩ := hq
        exact ⟨P, ρ, M, _, hE, hR, hw, fun ds M1 h1 vs H1 hl e1 r1 p1 => ⟨P, ds, M1, R, p1, r1, h1, fun d M' hd v H' e r p => k d M' hd v H' (e1.trans e) r p⟩⟩
    · cases h
  | .bm f o es, an, W, c, X, e', g, h => by
    unfold chkE at h; split at h
    · rename_i o' x apos es' cpos
      obtain ⟨h, h6⟩ := and_split h
      obtain ⟨h, h5⟩ := and_split h
      obtain ⟨h, h4⟩ := and_split h
      obtain ⟨h, h3⟩ := and_split h
      obtain ⟨h1, h2⟩ := and_split h
      have e := of_decide_eq_true h2
      subst e
      obtain ⟨t1, t2, t3⟩ := slot_bm f
      refine mkE ?_ (by intro _; rfl)
      have key : ∀ (σ : L2.St) (H : Hp) (Q : VK), lift X an (wpE G W (.bm f o es)) σ H Q → tBM X.K "list" (liftM X an (bmD f)) (lift X an (wpE G W o)) (liftAn X an (elLen es) (wpL G W es)) σ H Q := by
        rintro σ H Q ⟨P, ρ, M, R, hE, hR, hw, k⟩
        refine ⟨P, ρ, M, _, hE, hR, hw, fun x M1 h1 v1 H1 e1 r1 p1 => ⟨?_, ?_⟩⟩
        · exact ls_ty p1 r1 (by
            have := h1.1
            unfold bmTy at this
            cases f <;> exact this)
        · exact ⟨P, ρ, M1, _, hE.ext e1, r1, h1.2, fun ds M2 h2 vs H2 hl e2 r2 p2 => ⟨P, x, ds, M2, R, p1.ext e2, p2, r2, h2, fun d M' hd v H' e r p => k d M' hd v H' ((e1.trans e2).trans e) r p⟩⟩
      cases es' with
      | nil =>
        refine PE.imp (pe_bm0 t1 t2 t3 (bmD_ok (an := an) f) (sndE o g h1).1 (base_of h4) h5) fun σ H Q hq => ?_
        obtain ⟨P, ρ, M, R, hE, hR, hw, k⟩ := key σ H Q hq
        refine ⟨P, ρ, M, R, hE, hR, hw, fun x M1 h1' v1 H1 e1 r1 p1 => ?_⟩
        obtain ⟨z1, P2, ρ2, M2, R2, hE2, hR2, hw2, k2⟩ := k x M1 h1' v1 H1 e1 r1 p1
        refine ⟨z1, ?_⟩
        cases es with
        | nil => exact k2 _ _ hw2 _ _ rfl .refl hR2 .nil
        | cons _ _ => cases h3
      | cons e1 es1 =>
        have hs := chkL_stars h3
        have hfew := form_of (env := X.env) (pos := cpos) hs (of_decide_eq_true h6)
        unfold noStars at hs
        obtain ⟨s1, s2⟩ := and_split hs
        exact PE.imp (pe_bm t1 t2 t3 (bmD_ok (an := an) f) (sndE o g h1).1 (sndL es g h3) (base_of h4) hfew h5 (star_of s1) (stars_none s2)) key
    · cases h
  | .isi a T, an, W, c, X, e', g, h => by
    unfold chkE at h; split at h
    · rename_i x p1 a' y p2 p3
      obtain ⟨h, h6⟩ := and_split h
      obtain ⟨h, h5⟩ := and_split h
      obtain ⟨h, h4⟩ := and_split h
      obtain ⟨h, h3⟩ := and_split h
      obtain ⟨h1, h2⟩ := and_split h
      have e := of_decide_eq_true h2
      subst e
      have e := of_decide_eq_true h6
      subst e
      obtain ⟨b1, b2⟩ := gl_of g h1
      obtain ⟨b3, b4⟩ := gl_of g h5
      have pT : PE X (.Name T.id p2) (tC (.ty T.id)) := pe_bltn b3 (g.blt _ (mem_ic T).1) (boot_ic T) rfl (mem_ic T).2 b4
      refine mkE (PE.imp (pe_callB call_isi b1 (g.blt _ (by decide +kernel)) boot_isi (pa_cons (sndE a g h3).1 (pa_cons pT pa_nil rfl) (star_of h4)) (by decide +kernel) b2 (star_of h4) rfl) ?_) (by intro _; rfl)
      rintro σ H Q ⟨P, ρ, M, R, hE, hR, hw, k⟩
      refine ⟨P, ρ, M, _, hE, hR, hw, fun x M1 h1 v1 H1 e1 r1 p1 => ?_⟩
      split at h1
      · rename_i b eb
        obtain ⟨t, q1, q2⟩ := isi_ty T p1 r1 eb
        exact ⟨v1, .ty T.id, .type t, .type T.id, b, rfl, .ty _, q1, kit_ty q2, k _ _ h1 _ _ e1 r1 (.bl _)⟩
      · exact h1.elim
    · cases h
  | .exf i f, an, W, c, X, e', g, h => by
    unfold chkE at h; split at h
    · rename_i x p1 f' p2
      obtain ⟨h, h3⟩ := and_split h
      obtain ⟨h1, h2⟩ := and_split h
      have e := of_decide_eq_true h2
      subst e
      obtain ⟨a1, a2, a3, a4⟩ := vis_of g h1
      refine mkE ?_ (by intro _; rfl)
      cases hc : G.cur with
      | none =>
        refine PE.imp (t := fun _ _ _ => False) ⟨fun _ _ _ _ _ _ z => z.elim⟩ ?_
        rintro σ H Q ⟨P, ρ, M, R, hE, hR, hw, k⟩
        unfold wpE at hw
        rw [hc] at hw
        exact hw.elim
      | some ax =>
        obtain ⟨a, x⟩ := ax
        obtain ⟨X0, oe, pn, C, d, eX, m1, hz, hf, hd0, hd⟩ := (g.cur a x hc h3).ex
        by_cases hfm : (x.1, f) ∈ G.xf
        · obtain ⟨C', m2, xc, nx⟩ := g.xf _ _ hfm
          obtain rfl := Cls.of_mg m1 m2
          have pv : PE X (.Name _ p1) _ := pe_var a1 a2 a3 a4
          subst eX
          refine PE.imp (pe_xf xc nx hz hf pv rfl) ?_
          rintro σ H Q ⟨P, ρ, M, R, hE, hR, hw, k⟩
          unfold wpE at hw
          rw [hc] at hw
          dsimp only at hw
          split at hw
          · rename_i b es
            obtain ⟨rfl, _, hw⟩ := hw
            split at hw
            · rename_i e ef
              obtain ⟨v, q1, q2⟩ := hE.2 i _ (slot_get es)
              cases q2
              have n2 : x.2 ≠ [] := fun z => by rw [z] at ef; cases ef
              obtain ⟨dd, vs, ed, hdd, hl⟩ := hd P H M hR n2
              obtain ⟨v2, q3, q4⟩ := hl _ _ ef
              exact ⟨_, q1, rfl, rfl, dd, vs, v2, ed, hdd, q3, Cont.here k hR hw q4⟩
            · exact hw.elim
          · exact hw.elim
        · refine PE.imp (t := fun _ _ _ => False) ⟨fun _ _ _ _ _ _ z => z.elim⟩ ?_
          rintro σ H Q ⟨P, ρ, M, R, hE, hR, hw, k⟩
          unfold wpE at hw
          rw [hc] at hw
          dsimp only at hw
          split at hw
          · exact hfm hw.2.1
          · exact hw.elim
    · cases h
  | .exi i kk, an, W, c, X, e', g, h => by
    unfold chkE at h; split at h
    · rename_i x p1 y p2 z p3 p4
      obtain ⟨h, h7⟩ := and_split h
      have hn := of_decide_eq_true h7
      obtain ⟨h, h6⟩ := and_split h
      obtain ⟨h, h5⟩ := and_split h
      obtain ⟨h, h4⟩ := and_split h
      obtain ⟨h, h3⟩ := and_split h
      obtain ⟨h1, h2⟩ := and_split h
      have e := of_decide_eq_true h2
      subst e
      have e := of_decide_eq_true h5
      subst e
      obtain ⟨b1, b2⟩ := gl_of g h1
      obtain ⟨b3, b4⟩ := gl_of g h4
      obtain ⟨a1, a2, a3, a4⟩ := vis_of g h3
      refine mkE ?_ (by intro _; rfl)
      cases hc : G.cur with
      | none =>
        refine PE.imp (t := fun _ _ _ => False) ⟨fun _ _ _ _ _ _ z => z.elim⟩ ?_
        rintro σ H Q ⟨P, ρ, M, R, hE, hR, hw, k⟩
        unfold wpE at hw
        rw [hc] at hw
        exact hw.elim
      | some ax =>
        obtain ⟨a, x⟩ := ax
        obtain ⟨X0, oe, pn, C, d, eX, m1, hz, hf, hd0, hd⟩ := (g.cur a x hc h6).ex
        by_cases hg : x.2 = [] ∧ x.1 ∈ G.xi
        · obtain ⟨n2, xi⟩ := hg
          obtain ⟨C', m2, xc⟩ := g.xi _ xi
          obtain rfl := Cls.of_mg m1 m2
          have d0 := hd0 n2
          subst d0
          obtain ⟨cv, cn, cs⟩ := g.sub _ hn
          have pv : PE X (.Name y p2) _ := pe_var a1 a2 a3 a4
          have pc : ∃ v, PE X (.Name z p3) (tC v) ∧ ∀ u, RelV v u → u = cv := by
            rcases cn with ⟨C2, e1, e2⟩ | ⟨T, e1, e2, e3, e4⟩
            · exact ⟨.ref C2, pe_glob b3 e2 rfl b4, fun u r => by rw [e1]; exact r⟩
            · exact ⟨.ty T, pe_bltn b3 e2 e3 rfl e4 b4, fun u r => by rw [e1]; exact r⟩
          obtain ⟨v, pc, hv⟩ := pc
          have hbl : X.mg "isinstance" = none := g.blt _ (by decide +kernel)
          subst eX
          refine PE.imp (pe_callB (call_isE xc hz hf) b1 hbl boot_isi (pa_cons pv (pa_cons pc pa_nil rfl) rfl) (by decide +kernel) b2 rfl rfl) ?_
          rintro σ H Q ⟨P, ρ, M, R, hE, hR, hw, k⟩
          unfold wpE at hw
          rw [hc] at hw
          dsimp only at hw
          split at hw
          · rename_i b es
            obtain ⟨rfl, _, _, hw⟩ := hw
            split at hw
            · rename_i ks ek
              obtain ⟨w, q1, q2⟩ := hE.2 i _ (slot_get es)
              cases q2
              exact ⟨_, q1, v, cv, _, rfl, hv, (cs _ _ ek _ m1).2, Cont.here k hR hw (.bl _)⟩
            · exact hw.elim
          · exact hw.elim
        · refine PE.imp (t := fun _ _ _ => False) ⟨fun _ _ _ _ _ _ z => z.elim⟩ ?_
          rintro σ H Q ⟨P, ρ, M, R, hE, hR, hw, k⟩
          unfold wpE at hw
          rw [hc] at hw
          dsimp only at hw
          split at hw
          · exact hg ⟨hw.2.1, hw.2.2.1⟩
          · exact hw.elim
    · cases h
  | .lc m own elt tg it cond, an, W, c, X, e', g, h => by
    unfold chkE at h; split at h
    · rename_i elt' tg' it' ifs scope pos
      obtain ⟨h, hh⟩ := and_split h
      have hh := not_of_not hh
      obtain ⟨h, h7⟩ := and_split h
      obtain ⟨h, h6⟩ := and_split h
      obtain ⟨h, h5⟩ := and_split h
      obtain ⟨h, h4⟩ := and_split h
      obtain ⟨h, h3⟩ := and_split h
      obtain ⟨h1, h2⟩ := and_split h
      have hb : BlkOk X.N X.env.scope scope own := blkOk_by (by rw [g.N, g.sc]; exact h1)
      refine mkE (PE.imp (pe_lc (g := gW X .top (own.map (·.2)) (bindT G (fun _ _ _ => False) tg)) (tt := liftT X .top (wpC G (fun _ _ _ => False) cond)) (te := lift X .top (wpE G (fun _ _ _ => False) elt)) (g.calm hh) g.nd (sndI it g h4) hb (fun s H C cl fp => sndTW tg (g.blk hh (s := s) (H := H) (C := C) (cl := cl) (fp := fp)) h3 h2) (fun s H C cl fp => sndC cond (g.blk hh (s := s) (H := H) (C := C) (cl := cl) (fp := fp)) h5) (fun s H C cl fp => (sndE elt (g.blk hh (s := s) (H := H) (C := C) (cl := cl) (fp := fp)) h6).1) (fun _ => folded_of h7)) ?_) (by intro _; rfl)
      rintro σ H Q ⟨P, ρ, M, R, hE, hR, hw, k⟩
      refine ⟨P, ρ, M, _, hE, hR, hw, fun xs gd M1 h1 J H1 e1 r1 hz hJ => ?_⟩
      intro D0 hD
      refine lc_fold (gW X .top (own.map (·.2)) (bindT G (fun _ _ _ => False) tg)) ?_ (hE.ext e1) r1 hJ hD hz h1 ?_
      · intro P v H M d ρ1 RD Q' pd hE hR b kk
        exact ⟨P, d, ρ1, M, RD, pd, hE, hR, b, fun ρ' M' hd σ' H' hw e r E' => kk ρ' M' hd σ' H' (hw.trans wipe_idem) e r E'⟩
      · intro ds M' hd us H' q1 q2 e r pp
        unfold newL at hd
        split at hd
        · exact k _ _ (hd D0 q2) _ _ (e1.trans (e.take hD)) (r.own (r1.nop hD) (an.cl _ _ _ _ _ (e.take hD) r1.ah) ⟨us, q1, pp.own⟩) (.ref D0)
        · exact k _ _ hd _ _ (e1.trans e) (r.show' (fun _ p => .inl p) (an.cl _ _ _ _ _ e r1.ah)) (.lst q1 q2 (r1.nop hD) (pp.show' fun _ p => .inl p))
    · cases h
  | .lcx m own elt tg it cond, an, W, c, X, e', g, h => by
    unfold chkE at h; split at h
    · rename_i elt' tg' it' ifs scope pos
      obtain ⟨h, ht⟩ := and_split h
      obtain ⟨h, hh⟩ := and_split h
      have hh := not_of_not hh
      obtain ⟨h, h7⟩ := and_split h
      obtain ⟨h, h6⟩ := and_split h
      obtain ⟨h, h5⟩ := and_split h
      obtain ⟨h, h4⟩ := and_split h
      obtain ⟨h, h3⟩ := and_split h
      obtain ⟨h1, h2⟩ := and_split h
      have hb : BlkOk X.N X.env.scope scope own := blkOk_by (by rw [g.N, g.sc]; exact h1)
      refine mkE (PE.imp (pe_lx (g.calm hh) (g.fr ht).1 (g.fr ht).2 (g.tk hh) g.nd (sndI it g h4) hb (fun _ => folded_of h7)) ?_) (by intro _; rfl)
      rintro σ H Q ⟨P, ρ, M, R, hE, hR, hw, k⟩
      refine ⟨P, ρ, M, _, hE, hR, hw, fun xs gd M1 h1 J H1 e1 r1 hz hJ => ?_⟩
      refine ⟨liftX X (anB P H1 M1) (fun x _ M' => W x ρ M'), gW X (anB P H1 M1) (own.map (·.2)) (bindT G (fun x _ M' => W x ρ M') tg), liftT X (anB P H1 M1) (wpC G (fun x _ M' => W x ρ M') cond), lift X (anB P H1 M1) (wpE G (fun x _ M' => W x ρ M') elt), liftX_blk (hE.ext e1) r1, fun s H C cl fp xe tk => ?_, fun D0 hD => ?_⟩
      · have gb := g.blkE hh tk
        exact ⟨sndTW tg gb h3 h2, sndC cond gb h5, (sndE elt gb h6).1⟩
      · refine lx_fold (hE.ext e1) r1 hJ hD hz h1 fun ds M' hd us H' q1 q2 e r pp => ?_
        unfold newL at hd
        split at hd
        · exact k _ _ (hd D0 q2) _ _ (e1.trans (e.take hD)) (r.own (r1.nop hD) (an.cl _ _ _ _ _ (e.take hD) r1.ah) ⟨us, q1, pp.own⟩) (.ref D0)
        · exact k _ _ hd _ _ (e1.trans e) (r.show' (fun _ p => .inl p) (an.cl _ _ _ _ _ e r1.ah)) (.lst q1 q2 (r1.nop hD) (pp.show' fun _ p => .inl p))
    · cases h
  | .bad, an, W, c, X, e', g, h => ⟨⟨fun _ _ _ _ _ _ z => by obtain ⟨P, ρ, M, R, hE, hR, hw, k⟩ := z; exact (hw : False).elim⟩, fun _ => ⟨fun _ _ _ _ _ _ z => by obtain ⟨P, ρ, M, R, hE, hR, hw, k⟩ := z; exact (hw : False).elim⟩⟩
  | .dct0 m, an, W, c, X, e', g, h => by
    unfold chkE at h; split at h
    · refine mkE (PE.imp (PE.lk pe_dnewK) ?_) (by intro _; rfl)
      rintro σ H Q ⟨P, ρ, M, R, hE, hR, hw, k⟩
      intro p hp
      rcases newDc_ok k hR hw .nil p hp with q | ⟨kvs, q1, q2⟩
      · exact .inl q
      · exact .inr ⟨p, kvs, rfl, q1, q2⟩
    · cases h
  | .dct m es, an, W, c, X, e', g, h => by
    unfold chkE at h; split at h
    · rename_i ks vs pos
      obtain ⟨h, hh⟩ := and_split h
      have hh := not_of_not hh
      obtain ⟨h, h3⟩ := and_split h
      have h3 := of_decide_eq_true h3
      obtain ⟨h, h2⟩ := and_split h
      split at h
      · rename_i fs hz
        obtain ⟨z1, z2⟩ := zip_some hz
        have n0 : ks ≠ [] := fun z => by rw [z] at h2; cases h2
        have pp : PPs X pos ks vs (trsP X G es) := sndP es (g.calmW hh) hz h rfl rfl
        refine mkE (PE.imp (PE.lk (pe_disp pp z1 z2 n0 h3)) ?_) (by intro _; rfl)
        rintro σ H Q ⟨P, ρ, M, R, hE, hR, hw, k⟩
        intro p hp
        refine pairs_lift (P := hid P p) es ks hz h (RepE.extP (an := an) (an' := .top) (ExtP.hide hp) hE) (hR.hide hp) hw fun ds M2 h2 kv H2 hkl e2 r2 p2 p3 => ?_
        have p0 : hid P p p := .inr rfl
        have hm : M p = none := hR.free hp
        have q2 := e2.keep p _ hm upd_same
        split at h2
        · rename_i kvs em
          obtain ⟨ps, a1, a2, a3⟩ := merge_rep p2 p3 .nil em
          have nt := nt_dK q2.1
          have eH : Ext H M (upd H2 p (.dK (mergeK [] ps))) M2 := by
            refine ⟨fun a xs z => ?_, fun a u mm z => ?_⟩
            · have na : a ≠ p := by rintro rfl; obtain ⟨o, w⟩ := rdSome z; rw [hp] at w; cases w
              exact rdNe (e2.tup a xs (rdNe z na)) na
            · have na : a ≠ p := by rintro rfl; rw [hp] at z; cases z
              rw [upd_ne na]; exact e2.keep a u mm (by rw [upd_ne na]; exact z)
          have z := dict_end k hR hp h2 upd_same q2.2 eH (r2.priv p0 nt) (a2.priv p0 nt)
          refine ⟨q2.1, ps, a1, ?_, z⟩
          have l1 := congrArg List.length a1
          rw [List.length_map] at l1
          omega
        · exact h2.elim
      · cases h
    · cases h
  | .dget1 a kx, an, W, c, X, e', g, h => by
    unfold chkE at h; split at h
    · rename_i a' f apos k' cpos
      obtain ⟨h, h6⟩ := and_split h
      obtain ⟨h, h5⟩ := and_split h
      obtain ⟨h, h4⟩ := and_split h
      obtain ⟨h, h3⟩ := and_split h
      obtain ⟨h1, h2⟩ := and_split h
      have e := of_decide_eq_true h2
      subst e
      refine mkE (PE.imp (pe_dget1 (by have := g.units; omega) (sndE a g h1).1 (sndE kx g h3).1 (cond_m1 h5 h6 h4)) ?_) (by intro _; rfl)
      rintro σ H Q ⟨P, ρ, M, R, hE, hR, hw, k⟩
      refine ⟨P, ρ, M, _, hE, hR, hw, fun x M1 h1 v1 H1 e1 r1 p1 => ?_⟩
      obtain ⟨kvs0, z0⟩ := Option.isSome_iff_exists.mp h1.1
      obtain ⟨a0, vs0, rfl, y1, y2⟩ := dcRep p1 r1 z0
      refine ⟨a0, rfl, .inl ⟨vs0, y1⟩, P, ρ, M1, _, hE.ext e1, r1, h1.2, fun y M2 h2 v2 H2 e2 r2 p2 => ?_⟩
      split at h2
      · rename_i kvs kk em ek
        obtain ⟨a1, vs, b1, b2, b3, b4⟩ := dc_get (p1.ext e2) p2 r2 em ek
        cases b1
        exact ⟨_, b2, k _ _ h2 _ _ (e1.trans e2) r2 (getD_rep b4 .non)⟩
      · exact h2.elim
    · cases h
  | .dget2 a kx x, an, W, c, X, e', g, h => by
    unfold chkE at h; split at h
    · rename_i a' f apos k' x' cpos
      obtain ⟨h, h8⟩ := and_split h
      obtain ⟨h, h7⟩ := and_split h
      obtain ⟨h, h6⟩ := and_split h
      obtain ⟨h, h5⟩ := and_split h
      obtain ⟨h, h4⟩ := and_split h
      obtain ⟨h, h3⟩ := and_split h
      obtain ⟨h1, h2⟩ := and_split h
      have e := of_decide_eq_true h2
      subst e
      refine mkE (PE.imp (pe_dget2 (by have := g.units; omega) (sndE a g h1).1 (sndE kx g h3).1 (sndE x g h5).1 (cond_m2 h7 h8 h4 h6)) ?_) (by intro _; rfl)
      rintro σ H Q ⟨P, ρ, M, R, hE, hR, hw, k⟩
      refine ⟨P, ρ, M, _, hE, hR, hw, fun x M1 h1 v1 H1 e1 r1 p1 => ?_⟩
      obtain ⟨kvs0, z0⟩ := Option.isSome_iff_exists.mp h1.1
      obtain ⟨a0, vs0, rfl, y1, y2⟩ := dcRep p1 r1 z0
      refine ⟨a0, rfl, .inl ⟨vs0, y1⟩, P, ρ, M1, _, hE.ext e1, r1, h1.2, fun y M2 h2 v2 H2 e2 r2 p2 => ?_⟩
      refine ⟨P, ρ, M2, _, (hE.ext e1).ext e2, r2, h2, fun z M3 h3 v3 H3 e3 r3 p3 => ?_⟩
      split at h3
      · rename_i kvs kk em ek
        obtain ⟨a1, vs, b1, b2, b3, b4⟩ := dc_get ((p1.ext e2).ext e3) (p2.ext e3) r3 em ek
        cases b1
        exact ⟨_, b2, k _ _ h3 _ _ ((e1.trans e2).trans e3) r3 (getD_rep b4 p3)⟩
      · exact h3.elim
    · cases h
  | .rev m a, an, W, c, X, e', g, h => by
    unfold chkE at h; split at h
    · refine mkE (PE.imp (pe_revL (sndE a g h).1) ?_) (by intro _; rfl)
      rintro σ H Q ⟨P, ρ, M, R, hE, hR, hw, k⟩
      refine ⟨P, ρ, M, _, hE, hR, hw, fun x M1 h1 v1 H1 e1 r1 p1 => ?_⟩
      split at h1
      · rename_i ds em
        obtain ⟨a0, vs, rfl, y1, y2⟩ := lsRep p1 r1 em
        exact ⟨a0, vs, rfl, y1, newL_ok (fun d M' hd v H' e r p => k d M' hd v H' (e1.trans e) r p) r1 h1 y2.rev⟩
      · exact h1.elim
    · cases h
  | .dc m own kx vx tg it cond, an, W, c, X, e', g, h => by
    unfold chkE at h; split at h
    · rename_i k' v' tg' it' ifs scope pos
      obtain ⟨h, hh⟩ := and_split h
      have hh := not_of_not hh
      obtain ⟨h, h8⟩ := and_split h
      obtain ⟨h, h7⟩ := and_split h
      obtain ⟨h, h6⟩ := and_split h
      obtain ⟨h, h5⟩ := and_split h
      obtain ⟨h, h4⟩ := and_split h
      obtain ⟨h, h3⟩ := and_split h
      obtain ⟨h1, h2⟩ := and_split h
      have hb : BlkOk X.N X.env.scope scope own := blkOk_by (by rw [g.N, g.sc]; exact h1)
      refine mkE (PE.imp (PE.lk (pe_dc (g := gW X .top (own.map (·.2)) (bindT G (fun _ _ _ => False) tg)) (tt := liftT X .top (wpC G (fun _ _ _ => False) cond)) (tk := lift X .top (wpE G (fun _ _ _ => False) kx)) (tv := lift X .top (wpE G (fun _ _ _ => False) vx)) (g.calm hh) g.nd (sndI it g h4) hb (fun s H C cl fp => sndTW tg (g.blk hh (s := s) (H := H) (C := C) (cl := cl) (fp := fp)) h3 h2) (fun s H C cl fp => sndC cond (g.blk hh (s := s) (H := H) (C := C) (cl := cl) (fp := fp)) h5) (fun s H C cl fp => (sndE kx (g.blk hh (s := s) (H := H) (C := C) (cl := cl) (fp := fp)) h6).1) (fun s H C cl fp => (sndE vx (g.blk hh (s := s) (H := H) (C := C) (cl := cl) (fp := fp)) h7).1) (fun _ => folded_of h8))) ?_) (by intro _; rfl)
      rintro σ H Q ⟨P, ρ, M, R, hE, hR, hw, k⟩
      refine ⟨P, ρ, M, _, hE, hR, hw, fun xs gd M1 h1 J H1 e1 r1 hz hJ => ?_⟩
      intro D0 hD
      refine dc_fold (Q := fun v H' => Q v H' ∨ ∃ p kvs, v = .ref p ∧ H' p = some (.dK kvs) ∧ ∀ od, Q (.ref p) (upd H' p (.frz od (.dK kvs)))) (gW X .top (own.map (·.2)) (bindT G (fun _ _ _ => False) tg)) ?_ (hE.ext e1) r1 hJ hD hz h1 ?_
      · intro P v H M d ρ1 RD Q' pd hE hR b kk
        exact ⟨P, d, ρ1, M, RD, pd, hE, hR, b, fun ρ' M' hd σ' H' hw e r E' => kk ρ' M' hd σ' H' (hw.trans wipe_idem) e r E'⟩
      · intro ds M' hd us H' q1 q2 e r pp
        exact dict_end (fun d M' hd v H' e r p => k d M' hd v H' (e1.trans e) r p) r1 hD hd q1 q2 e r pp
    · cases h
  | .lc2 m own vs1 elt tg it cond tg1 it1 cond1, an, W, c, X, e', g, h => by
    unfold chkE at h; split at h
    · rename_i elt' tg' it' ifs tg1' it1' ifs1 scope pos
      obtain ⟨h, hh⟩ := and_split h
      have hh := not_of_not hh
      obtain ⟨h, hs1⟩ := and_split h
      obtain ⟨h, hs⟩ := and_split h
      obtain ⟨h, h11⟩ := and_split h
      obtain ⟨h, h10⟩ := and_split h
      obtain ⟨h, h9⟩ := and_split h
      obtain ⟨h, h8⟩ := and_split h
      obtain ⟨h, h7⟩ := and_split h
      obtain ⟨h, h6⟩ := and_split h
      obtain ⟨h, h5⟩ := and_split h
      obtain ⟨h, h4⟩ := and_split h
      obtain ⟨h, h3⟩ := and_split h
      obtain ⟨h1, h2⟩ := and_split h
      have hb : BlkOk X.N X.env.scope scope own := blkOk_by (by rw [g.N, g.sc]; exact h1)
      have hv : ∀ i ∈ vs1, i ∈ own.map (·.2) := fun i hi => of_decide_eq_true (List.all_eq_true.mp h6 i hi)
      refine mkE (PE.imp (pe_lc2 (g := gW X .top (own.map (·.2)) (bindT G (fun _ _ _ => False) tg)) (tt := liftT X .top (wpC G (fun _ _ _ => False) cond)) (wi1 := liftI X .top (wpI G (fun _ _ _ => False) it1)) (g1 := gW X .top vs1 (bindT G (fun _ _ _ => False) tg1)) (tt1 := liftT X .top (wpC G (fun _ _ _ => False) cond1)) (te := lift X .top (wpE G (fun _ _ _ => False) elt)) (g.calm hh) g.nd (sndI it g h4) hb hv (fun s H C cl fp => sndTW tg (g.blk hh (s := s) (H := H) (C := C) (cl := cl) (fp := fp)) h3 h2) (fun s H C cl fp => sndC cond (g.blk hh (s := s) (H := H) (C := C) (cl := cl) (fp := fp)) h5) (fun s H C cl fp => blk_I (sndI it1 (g.blk hh (s := s) (H := H) (C := C) (cl := cl) (fp := fp)) h9)) (fun s H C cl fp => sndTW tg1 (g.blk hh (s := s) (H := H) (C := C) (cl := cl) (fp := fp)) h8 h7) (fun s H C cl fp => sndC cond1 (g.blk hh (s := s) (H := H) (C := C) (cl := cl) (fp := fp)) h10) (fun s H C cl fp => (sndE elt (g.blk hh (s := s) (H := H) (C := C) (cl := cl) (fp := fp)) h11).1) (fun _ => folded_of hs) (fun _ _ => folded_of hs1)) ?_) (by intro _; rfl)
      rintro σ H Q ⟨P, ρ, M, R, hE, hR, hw, k⟩
      refine ⟨P, ρ, M, _, hE, hR, hw, fun xs gd M1 h1 J H1 e1 r1 hz hJ => ?_⟩
      intro D0 hD
      refine lc2_fold (gW X .top (own.map (·.2)) (bindT G (fun _ _ _ => False) tg)) (gW X .top vs1 (bindT G (fun _ _ _ => False) tg1)) ?_ ?_ (hE.ext e1) r1 hJ hD h1 ?_
      · intro P v H M d ρ1 RD Q' pd hE hR b kk
        exact ⟨P, d, ρ1, M, RD, pd, hE, hR, b, fun ρ' M' hd σ' H' hw e r E' => kk ρ' M' hd σ' H' (hw.trans wipe_idem) e r E'⟩
      · intro σ2 P v H M d ρ1 RD Q' pd hE hR b kk
        exact ⟨P, d, ρ1, M, RD, pd, hE, hR, b, fun ρ' M' hd σ' H' hw e r E' => kk ρ' M' hd σ' H' (hw.trans wipe_idem) e r E'⟩
      · intro ds M' hd us H' q1 q2 e r pp
        unfold newL at hd
        split at hd
        · exact k _ _ (hd D0 q2) _ _ (e1.trans (e.take hD)) (r.own (r1.nop hD) (an.cl _ _ _ _ _ (e.take hD) r1.ah) ⟨us, q1, pp.own⟩) (.ref D0)
        · exact k _ _ hd _ _ (e1.trans e) (r.show' (fun _ p => .inl p) (an.cl _ _ _ _ _ e r1.ah)) (.lst q1 q2 (r1.nop hD) (pp.show' fun _ p => .inl p))
    · cases h
theorem sndL : ∀ (es : EL) {an : An} {W : XW} {c : CT} {X : Cx} {fs : List Expr}, Good G an W c X → chkL c es fs = true → PA X fs (liftAn X an (elLen es) (wpL G W es))
  | .nil, an, W, c, X, fs, g, h => by
    cases fs with
    | nil =>
      refine PA.imp pa_nil ?_
      rintro σ H Q ⟨P, ρ, M, R, hE, hR, hw, k⟩
      exact k _ _ hw _ _ rfl .refl hR .nil
    | cons _ _ => cases h
  | .cons e es, an, W, c, X, fs, g, h => by
    cases fs with
    | nil => cases h
    | cons f fs =>
      unfold chkL at h
      obtain ⟨h, h3⟩ := and_split h
      obtain ⟨h1, h2⟩ := and_split h
      refine PA.imp (pa_cons (sndE e g h1).1 (sndL es g h3) (star_of h2)) ?_
      rintro σ H Q ⟨P, ρ, M, R, hE, hR, hw, k⟩
      refine ⟨P, ρ, M, _, hE, hR, hw, fun x M1 h1 v1 H1 e1 r1 p1 => ?_⟩
      refine ⟨P, ρ, M1, _, hE.ext e1, r1, h1, fun ds M2 h2 vs H2 hl e2 r2 p2 => ?_⟩
      exact k _ _ h2 _ _ (congrArg (· + 1) hl) (e1.trans e2) r2 (.cons (p1.ext e2) p2)
theorem sndP : ∀ (es : EL) {an : An} {W : XW} {c : CT} {X : Cx} {pos : Pos} {ks : List (Option Expr)} {vs fs : List Expr}, Good G an W c X → zipKV ks vs = some fs → chkL c es fs = true → an = .top → W = (fun _ _ _ => False) → PPs X pos ks vs (trsP X G es)
  | .nil, an, W, c, X, pos, ks, vs, fs, g, hz, h, ha, hW => by
    cases fs with
    | nil =>
      cases ks with
      | nil => cases vs with
        | nil => exact pps_nil
        | cons _ _ => cases hz
      | cons x ks => cases x with
        | none => cases vs <;> cases hz
        | some x => cases vs with
          | nil => cases hz
          | cons v vs =>
            have hz : (zipKV ks vs).map (fun r => x :: v :: r) = some [] := hz
            cases e : zipKV ks vs with
            | none => rw [e] at hz; cases hz
            | some r => rw [e] at hz; cases hz
    | cons _ _ => cases h
  | .cons k1 .nil, an, W, c, X, pos, ks, vs, fs, g, hz, h, ha, hW => by
    exfalso
    cases ks with
    | nil => cases vs with
      | nil => cases hz; cases h
      | cons _ _ => cases hz
    | cons x ks => cases x with
      | none => cases vs <;> cases hz
      | some x => cases vs with
        | nil => cases hz
        | cons v vs =>
          have hz : (zipKV ks vs).map (fun r => x :: v :: r) = some fs := hz
          cases e : zipKV ks vs with
          | none => rw [e] at hz; cases hz
          | some r =>
            rw [e] at hz; cases hz
            unfold chkL at h
            have := (and_split h).2
            cases this
  | .cons k1 (.cons v1 r1), an, W, c, X, pos, ks, vs, fs, g, hz, h, ha, hW => by
    cases ks with
    | nil => cases vs with
      | nil => cases hz; cases h
      | cons _ _ => cases hz
    | cons x ks => cases x with
      | none => cases vs <;> cases hz
      | some x => cases vs with
        | nil => cases hz
        | cons v vs =>
          have hz : (zipKV ks vs).map (fun r => x :: v :: r) = some fs := hz
          cases e : zipKV ks vs with
          | none => rw [e] at hz; cases hz
          | some r =>
            rw [e] at hz; cases hz
            unfold chkL at h
            obtain ⟨h, h3⟩ := and_split h
            obtain ⟨h1, h2⟩ := and_split h
            unfold chkL at h3
            obtain ⟨h, h6⟩ := and_split h3
            obtain ⟨h4, h5⟩ := and_split h
            have p1 := (sndE k1 g h1).1
            have p2 := (sndE v1 g h4).1
            have p3 := sndP r1 (pos := pos) g e h6 ha hW
            subst ha hW
            exact pps_cons p1 p2 p3
theorem sndO : ∀ (e : EO) {an : An} {W : XW} {c : CT} {X : Cx} {f : Option Expr}, Good G an W c X → chkO c e f = true → PO X f (liftO X an (wpO G W e))
  | .none, an, W, c, X, f, g, h => by
    cases f with
    | none =>
      refine ⟨fun pins s σ H Q I hq => ?_⟩
      obtain ⟨P, ρ, M, R, hE, hR, hw, k⟩ := hq
      exact po_none.run pins s σ H Q I (k _ _ hw _ .refl hR)
    | some _ => cases h
  | .some e, an, W, c, X, f, g, h => by
    cases f with
    | none => cases h
    | some e' =>
      refine ⟨fun pins s σ H Q I hq => ?_⟩
      obtain ⟨P, ρ, M, R, hE, hR, hw, k⟩ := hq
      refine (po_some (sndE e g h).1).run pins s σ H Q I ⟨P, ρ, M, _, hE, hR, hw, fun x M1 h1 v1 H1 e1 r1 p1 => ?_⟩
      cases p1 with
      | int i => exact ⟨i, rfl, k _ _ h1 _ e1 r1⟩
      | _ => exact h1.elim
theorem sndC : ∀ (e : EO) {an : An} {W : XW} {c : CT} {X : Cx} {fs : List Expr}, Good G an W c X → chkC c e fs = true → PTs X fs (liftT X an (wpC G W e))
  | .none, an, W, c, X, fs, g, h => by
    cases fs with
    | nil =>
      refine ⟨fun pins s σ H Q I hq => ?_⟩
      obtain ⟨P, ρ, M, R, hE, hR, hw, k⟩ := hq
      exact pts_nil.run pins s σ H Q I (k _ _ hw _ .refl hR)
    | cons _ _ => cases h
  | .some e, an, W, c, X, fs, g, h => by
    unfold chkC at h
    split at h
    · obtain ⟨h1, h2⟩ := and_split h
      exact pts_one ((sndE e g h2).2 h1)
    · cases h
theorem sndI : ∀ (it : IT) {an : An} {W : XW} {c : CT} {X : Cx} {tg e' : Expr}, Good G an W c X → chkI c it tg e' = true → PI X tg e' (liftI X an (wpI G W it))
  | .seq e, an, W, c, X, tg, e', g, h => by
    refine PI.imp (pi_seqB (PE.len (sndE e g h).1)) ?_
    rintro σ H RR ⟨P, ρ, M, R, hE, hR, hw, k⟩
    refine ⟨P, ρ, M, _, hE, hR, hw, fun x M1 h1 v1 H1 e1 r1 p1 ln => ?_⟩
    split at h1
    · rename_i ds eq
      rcases sq_cases eq with e2 | e2
      · subst e2
        cases p1 with
        | tup q1 q2 =>
          have hz : ds.length ≤ sizeLine := by rw [q2.length]; exact ln _ _ (.inr q1)
          exact .inr ⟨_, _, rfl, q1, k _ _ _ (h1 hz) _ _ e1 r1 hz (it_tup (.tup q1 q2))⟩
      · obtain ⟨a, vs, rfl, q1, q2⟩ := lsRep p1 r1 e2
        have hz : ds.length ≤ sizeLine := by rw [q2.length]; exact ln _ _ (.inl q1)
        exact .inl ⟨_, _, rfl, q1, k _ _ _ (h1 hz) _ _ e1 r1 hz (it_list e2 p1)⟩
    · exact h1.elim
  | .items a, an, W, c, X, tg, e', g, h => by
    unfold chkI at h; split at h
    · rename_i a' f apos cpos
      obtain ⟨h, h5⟩ := and_split h
      obtain ⟨h, h4⟩ := and_split h
      obtain ⟨h, h3⟩ := and_split h
      obtain ⟨h1, h2⟩ := and_split h
      have e := of_decide_eq_true h2
      subst e
      cases tg with
      | Tuple elts kk tpos =>
        refine PI.imp (pi_items (PE.lenK (sndE a g h1).1) (base_of h3) h4) ?_
        rintro σ H RR ⟨P, ρ, M, R, hE, hR, hw, k⟩
        refine ⟨P, ρ, M, _, hE, hR, hw, fun x M1 h1 v1 H1 e1 r1 p1 ln => ?_⟩
        split at h1
        · rename_i kvs
          cases p1 with
          | dic q1 q2 q3 q4 =>
            refine ⟨_, _, _, rfl, q1, ?_⟩
            have hz : kvs.length ≤ sizeLine := by rw [q4.length]; exact ln _ _ _ q1
            exact k _ _ _ (h1 hz) _ _ e1 r1 (by rw [List.length_map]; exact hz) (it_items q1 q2 q3 q4)
        · exact h1.elim
      | _ => cases h5
    · cases h
  | .keys a, an, W, c, X, tg, e', g, h => by
    refine PI.imp (pi_keys (PE.lenK (sndE a g h).1)) ?_
    rintro σ H RR ⟨P, ρ, M, R, hE, hR, hw, k⟩
    refine ⟨P, ρ, M, _, hE, hR, hw, fun x M1 h1 v1 H1 e1 r1 p1 ln => ?_⟩
    split at h1
    · rename_i kvs
      cases p1 with
      | dic q1 q2 q3 q4 =>
        refine ⟨_, _, rfl, .inl ⟨_, q1, ?_⟩⟩
        have hz : kvs.length ≤ sizeLine := by rw [q4.length]; exact ln _ _ _ q1
        exact k _ _ _ (h1 hz) _ _ e1 r1 (by rw [List.length_map]; exact hz) (it_keys q1 q2 q3 q4)
    · exact h1.elim
  | .chars a, an, W, c, X, tg, e', g, h => by
    refine PI.imp (pi_str (sndE a g h).1) ?_
    rintro σ H RR ⟨P, ρ, M, R, hE, hR, hw, k⟩
    refine ⟨P, ρ, M, _, hE, hR, hw, fun x M1 h1 v1 H1 e1 r1 p1 => ?_⟩
    split at h1
    · rename_i z
      cases p1
      refine ⟨z, rfl, k _ _ _ h1.2 _ _ e1 r1 ?_ it_str⟩
      rw [List.length_map, Array.length_toList]
      exact h1.1
    · exact h1.elim
  | .rng1 a, an, W, c, X, tg, e', g, h => by
    unfold chkI at h; split at h
    · obtain ⟨h, h4⟩ := and_split h
      obtain ⟨h, h3⟩ := and_split h
      obtain ⟨h1, h2⟩ := and_split h
      have e := of_decide_eq_true h2
      subst e
      obtain ⟨b1, b2⟩ := gl_of g h1
      refine PI.imp (pi_range1 b1 (g.blt _ (by decide +kernel)) (pa_cons (sndE a g h3).1 pa_nil (star_of h4)) (star_of h4)) ?_
      rintro σ H RR ⟨P, ρ, M, R, hE, hR, hw, k⟩
      refine ⟨P, ρ, M, _, hE, hR, hw, fun x M1 h1 v1 H1 e1 r1 p1 => ?_⟩
      cases p1 with
      | int i =>
        obtain ⟨q, h1⟩ := h1
        refine ⟨i, rfl, q.1, by omega, k _ _ _ h1 _ _ e1 r1 ?_ it_rng⟩
        rw [rgD_len]
        show i.toNat ≤ 16777216
        omega
      | _ => exact h1.elim
    · cases h
  | .rng2 a b, an, W, c, X, tg, e', g, h => by
    unfold chkI at h; split at h
    · obtain ⟨h, h6⟩ := and_split h
      obtain ⟨h, h5⟩ := and_split h
      obtain ⟨h, h4⟩ := and_split h
      obtain ⟨h, h3⟩ := and_split h
      obtain ⟨h1, h2⟩ := and_split h
      have e := of_decide_eq_true h2
      subst e
      obtain ⟨b1, b2⟩ := gl_of g h1
      refine PI.imp (pi_range2 b1 (g.blt _ (by decide +kernel)) (pa_cons (sndE a g h3).1 (pa_cons (sndE b g h5).1 pa_nil (star_of h6)) (star_of h4)) (by rw [star_of h4, star_of h6]; rfl) (by rw [star_of h6]; rfl)) ?_
      rintro σ H RR ⟨P, ρ, M, R, hE, hR, hw, k⟩
      refine ⟨P, ρ, M, _, hE, hR, hw, fun x M1 h1 v1 H1 e1 r1 p1 => ?_⟩
      refine ⟨P, ρ, M1, _, hE.ext e1, r1, h1, fun y M2 h2 v2 H2 e2 r2 p2 => ?_⟩
      cases p1 with
      | int i =>
        cases p2 with
        | int j =>
          obtain ⟨q, h2⟩ := h2
          refine ⟨i, j, rfl, ⟨q.1, q.2.1, q.2.2.1, q.2.2.2.1⟩, k _ _ _ h2 _ _ (e1.trans e2) r2 ?_ it_rng⟩
          rw [rgD_len]
          show (j - i).toNat ≤ 16777216
          omega
        | _ => exact h2.elim
      | _ => cases p2 <;> exact h2.elim
    · cases h
  | .rng3 a b d, an, W, c, X, tg, e', g, h => by
    unfold chkI at h; split at h
    · obtain ⟨h, h8⟩ := and_split h
      obtain ⟨h, h7⟩ := and_split h
      obtain ⟨h, h6⟩ := and_split h
      obtain ⟨h, h5⟩ := and_split h
      obtain ⟨h, h4⟩ := and_split h
      obtain ⟨h, h3⟩ := and_split h
      obtain ⟨h1, h2⟩ := and_split h
      have e := of_decide_eq_true h2
      subst e
      obtain ⟨b1, b2⟩ := gl_of g h1
      refine PI.imp (pi_range3 b1 (g.blt _ (by decide +kernel)) (pa_cons (sndE a g h3).1 (pa_cons (sndE b g h5).1 (pa_cons (sndE d g h7).1 pa_nil (star_of h8)) (star_of h6)) (star_of h4)) (star_of h4) (stars_none (by unfold noStars; unfold noStars; rw [h6, h8]; rfl))) ?_
      rintro σ H RR ⟨P, ρ, M, R, hE, hR, hw, k⟩
      refine ⟨P, ρ, M, _, hE, hR, hw, fun x M1 h1 v1 H1 e1 r1 p1 => ?_⟩
      refine ⟨P, ρ, M1, _, hE.ext e1, r1, h1, fun y M2 h2 v2 H2 e2 r2 p2 => ?_⟩
      refine ⟨P, ρ, M2, _, (hE.ext e1).ext e2, r2, h2, fun z M3 h3 v3 H3 e3 r3 p3 => ?_⟩
      have e13 := (e1.trans e2).trans e3
      split at h3
      · rename_i i j cc
        cases p1; cases p2; cases p3
        obtain ⟨q1, q2, h3⟩ := h3
        have nn : 0 ≤ Builtin.Range.rangeSize i j cc := range_nn _ _ _
        refine ⟨_, _, _, _, rfl, ⟨q1.1, q1.2.1, q1.2.2, (Int.toNat_of_nonneg nn).symm⟩, k _ _ _ h3 _ _ e13 r3 ?_ it_rngC⟩
        rw [rgD_len]
        show (Builtin.Range.rangeSize i j cc).toNat ≤ 16777216
        omega
      · exact h3.elim
    · cases h
  | .zip a b, an, W, c, X, tg, e', g, h => by
    unfold chkI at h; split at h
    · obtain ⟨h, h7⟩ := and_split h
      obtain ⟨h, h6⟩ := and_split h
      obtain ⟨h, h5⟩ := and_split h
      obtain ⟨h, h4⟩ := and_split h
      obtain ⟨h, h3⟩ := and_split h
      obtain ⟨h1, h2⟩ := and_split h
      have e := of_decide_eq_true h2
      subst e
      obtain ⟨b1, b2⟩ := gl_of g h1
      cases tg with
      | Tuple elts kk tpos =>
        refine PI.imp (RZ.pi_zipA b1 (g.blt _ (by decide +kernel)) (PA.len (pa_cons (sndE a g h3).1 (pa_cons (sndE b g h5).1 pa_nil (star_of h6)) (star_of h4))) (star_of h4) (stars_none (by unfold noStars; rw [h6]; rfl))) ?_
        rintro σ H RR ⟨P, ρ, M, R, hE, hR, hw, k⟩
        refine ⟨P, ρ, M, _, hE, hR, hw, fun x M1 h1 v1 H1 e1 r1 p1 => ?_⟩
        refine ⟨P, ρ, M1, _, hE.ext e1, r1, h1, fun y M2 h2 v2 H2 e2 r2 p2 => ?_⟩
        intro ln
        have p1' := p1.ext e2
        have e12 := e1.trans e2
        split at h2
        · rename_i xs ys eq
          unfold zpOf at eq
          split at eq
          · cases eq
            cases p1' with
            | tup a1 a2 =>
              cases p2 with
              | tup a3 a4 =>
                have z1 : xs.length ≤ sizeLine := by rw [a2.length]; exact ln _ _ (.inr a1)
                have z2 : ys.length ≤ sizeLine := by rw [a4.length]; exact ln _ _ (.inr a3)
                refine ⟨_, _, _, _, rfl, .inr ⟨a1, a3, k _ _ _ (h2 z1 z2) _ _ e12 r2 ?_ (it_zipT (.tup a1 a2) (.tup a3 a4))⟩⟩
                rw [zipD_len]; omega
          · split at eq
            · rename_i q1 q2
              cases eq
              obtain ⟨a, vs, rfl, a1, a2⟩ := lsRep p1' r2 q1
              obtain ⟨b, us, rfl, a3, a4⟩ := lsRep p2 r2 q2
              have z1 : xs.length ≤ sizeLine := by rw [a2.length]; exact ln _ _ (.inl a1)
              have z2 : ys.length ≤ sizeLine := by rw [a4.length]; exact ln _ _ (.inl a3)
              refine ⟨_, _, _, _, rfl, .inl ⟨a1, a3, k _ _ _ (h2 z1 z2) _ _ e12 r2 ?_ (it_zip q1 q2 p1' p2)⟩⟩
              rw [zipD_len]; omega
            · cases eq
        · exact h2.elim
      | _ => cases h7
    · cases h
  | .enum a, an, W, c, X, tg, e', g, h => by
    unfold chkI at h; split at h
    · obtain ⟨h, h5⟩ := and_split h
      obtain ⟨h, h4⟩ := and_split h
      obtain ⟨h, h3⟩ := and_split h
      obtain ⟨h1, h2⟩ := and_split h
      have e := of_decide_eq_true h2
      subst e
      obtain ⟨b1, b2⟩ := gl_of g h1
      cases tg with
      | Tuple elts kk tpos =>
        refine PI.imp (pi_enumA b1 (g.blt _ (by decide +kernel)) (PA.len (pa_cons (sndE a g h3).1 pa_nil (star_of h4))) (star_of h4)) ?_
        rintro σ H RR ⟨P, ρ, M, R, hE, hR, hw, k⟩
        refine ⟨P, ρ, M, _, hE, hR, hw, fun x M1 h1 v1 H1 e1 r1 p1 => ?_⟩
        intro ln
        split at h1
        · rename_i xs eq
          cases hl : lsOf M1 x with
          | some ys =>
            have : ys = xs := by
              cases x with
              | tup _ => cases hl
              | _ => exact Option.some.inj (hl.symm.trans eq)
            subst this
            obtain ⟨a, vs, rfl, a1, a2⟩ := lsRep p1 r1 hl
            have z1 : ys.length ≤ sizeLine := by rw [a2.length]; exact ln _ _ (.inl a1)
            refine ⟨_, _, rfl, .inl ⟨a1, k _ _ _ (h1 z1) _ _ e1 r1 ?_ (it_enum hl p1)⟩⟩
            rw [enumD_len]; exact z1
          | none =>
            cases x with
            | tup ds =>
              cases eq
              cases p1 with
              | tup a1 a2 =>
                have z1 : xs.length ≤ sizeLine := by rw [a2.length]; exact ln _ _ (.inr a1)
                refine ⟨_, _, rfl, .inr ⟨a1, k _ _ _ (h1 z1) _ _ e1 r1 ?_ (it_enumT (.tup a1 a2))⟩⟩
                rw [enumD_len]; exact z1
            | _ => (have q := hl.symm.trans (show lsOf M1 _ = some xs from eq); cases q)
        · exact h1.elim
      | _ => cases h5
    · cases h
theorem sndT : ∀ (t : TG1) {an : An} {W : XW} {c : CT} {X : Cx} {e : Expr}, Good G an W c X → chkT c t e = true → PG X e (liftG X an (bindT G W t))
  | .v i, an, W, c, X, e, g, h => by
    unfold chkT at h
    split at h
    · obtain ⟨h1, h2, h3⟩ := wr_of g h
      refine ⟨fun pins s σ H v u Q I r hq => ?_⟩
      obtain ⟨P, d, ρ, M, RD, pd, hE, hR, b, k⟩ := hq
      exact (pg_name g.nd h1 h2 h3).run pins s σ H v u Q I r (k _ _ b _ _ .refl hR (hE.set pd))
    · cases h
  | .tup ts, an, W, c, X, e, g, h => by
    unfold chkT at h
    split at h
    · obtain ⟨h, hh⟩ := and_split h
      have hh := not_of_not hh
      have hs := chkTL_stars h
      obtain ⟨a1, a2, _⟩ := assignEach_len (env := X.env) hs
      refine ⟨fun pins s σ H v u Q I r hq => ?_⟩
      obtain ⟨P, d, ρ, M, RD, pd, hE, hR, b, k⟩ := hq
      unfold bindT at b
      split at b
      · cases pd with
        | tup p1 p2 =>
          exact (pg_tup (g.calm hh) (sndTL ts g h) a1 a2).run pins s σ H _ u Q I r ⟨_, _, rfl, p1, by rw [← p2.length, chkTL_len h]; exact b.1, P, _, ρ, M, _, p2, hE, hR, b.2, k⟩
      · exact b.elim
    · cases h
  | .sub a i, an, W, c, X, e, g, h => by
    unfold chkT at h
    split at h
    · obtain ⟨h, h3⟩ := and_split h
      obtain ⟨h1, h2⟩ := and_split h
      refine ⟨fun pins s σ H v u Q I r hq => ?_⟩
      obtain ⟨P, d, ρ, M, RD, pd, hE, hR, b, k⟩ := hq
      refine (pg_sub (sndE a g h1).1 (sndE i g h2).1 (setD_ok (an := an) g.units) (assign_sub h3)).run pins s σ H v u Q I r ⟨P, ρ, M, _, hE, hR, b, fun x M1 b1 v1 H1 e1 r1 p1 => ?_⟩
      refine ⟨P, ρ, M1, _, hE.ext e1, r1, b1, fun y M2 b2 v2 H2 e2 r2 p2 => ?_⟩
      exact ⟨P, x, y, d, M2, _, p1.ext e2, p2, (pd.ext e1).ext e2, r2, b2, fun M3 b3 H3 e3 r3 => k _ _ b3 _ _ ((e1.trans e2).trans e3) r3 (((hE.ext e1).ext e2).ext e3)⟩
    · cases h
  | .att a f, an, W, c, X, e, g, h => by
    unfold chkT at h
    split at h
    · obtain ⟨h1, h2⟩ := and_split h
      have e := of_decide_eq_true h2
      subst e
      refine ⟨fun pins s σ H v u Q I r hq => ?_⟩
      obtain ⟨P, d, ρ, M, RD, pd, hE, hR, b, k⟩ := hq
      refine (pg_att (sndE a g h1).1).run pins s σ H v u Q I r ⟨P, ρ, M, _, hE, hR, b, fun x M1 b1 v1 H1 e1 r1 p1 => ?_⟩
      split at b1
      · cases p1
        split at b1
        · rename_i kc fs em
          obtain ⟨c1, c2, b1⟩ := b1
          obtain ⟨C, dx, vs, q1, q2, q3⟩ := r1.ob _ _ em
          obtain ⟨C', z1, z2, z3⟩ := g.fl _ _ c1
          obtain rfl := Cls.of_mg q2 z1
          have nt := (r1.ob _ _ em).notup
          have e3 := Ext.wr (H := H1) (o' := .ins kc (putD f d fs)) (u := .ins C dx (putF f v vs)) em nt
          exact ⟨_, C, dx, vs, rfl, q1, z2, z3, by rw [← q3.length]; exact c2, k _ _ b1 _ _ (e1.trans e3) (r1.wr em ⟨C, dx, _, upd_same, q2, (q3.put (pd.ext e1)).ext e3⟩) ((hE.ext e1).ext e3)⟩
        · exact b1.elim
      · exact b1.elim
    · cases h
theorem sndTL : ∀ (ts : TGL) {an : An} {W : XW} {c : CT} {X : Cx} {es : List Expr}, Good G an W c X → chkTL c ts es = true → PGs X es (liftGs X an (bindL G W ts))
  | .nil, an, W, c, X, es, g, h => by
    cases es with
    | nil =>
      refine ⟨fun pins s σ H us uu Q I r hq => ?_⟩
      obtain ⟨P, ds, ρ, M, RD, pd, hE, hR, b, k⟩ := hq
      obtain ⟨rfl, b⟩ := b
      cases pd
      exact pgs_nil.run pins s σ H _ uu Q I r ⟨rfl, k _ _ b _ _ .refl hR hE⟩
    | cons _ _ => cases h
  | .cons t ts, an, W, c, X, es, g, h => by
    cases es with
    | nil => cases h
    | cons e es =>
      unfold chkTL at h
      obtain ⟨h, h3⟩ := and_split h
      obtain ⟨h1, h2⟩ := and_split h
      refine ⟨fun pins s σ H us uu Q I r hq => ?_⟩
      obtain ⟨P, ds, ρ, M, RD, pd, hE, hR, b, k⟩ := hq
      cases ds with
      | nil => exact b.elim
      | cons d ds =>
        cases pd with
        | cons p1 p2 =>
          refine (pgs_cons (sndT t g h1) (sndTL ts g h3) (assignEach_cons h2)).run pins s σ H _ uu Q I r ⟨_, _, rfl, P, d, ρ, M, _, p1, hE, hR, b, fun ρ1 M1 b1 σ1 H1 e1 r1 E1 => ?_⟩
          exact ⟨P, ds, ρ1, M1, _, p2.ext e1, E1, r1, b1, fun ρ2 M2 b2 σ2 H2 e2 r2 E2 => k _ _ b2 _ _ (e1.trans e2) r2 E2⟩
end
end
end DS

/-! DS12: statements keep their word -/
namespace DS
open PySem PySem.Spec PyProof.Rows L2
section
variable {G : Gam} {an : An} {W : XW} {c : CT} {X : Cx}
theorem swaps_no {e : Expr} {t : Option Expr} {l : Nat} {env : Env} (h : isComp e = false) : swapsWith e t l env = pure false := by
  cases e <;> first | rfl | (exact (Bool.false_ne_true h.symm).elim)
theorem swaps_tgt {e t : Expr} {l : Nat} {env : Env} (h : (isNameE t && isComp e) = false) : swapsWith e (some t) l env = pure false := by
  cases hc : isComp e with
  | false => exact swaps_no hc
  | true =>
    rw [hc, Bool.and_true] at h
    cases t <;> first | (exact (Bool.false_ne_true h.symm).elim) | skip
    all_goals (cases e <;> first | (exact (Bool.false_ne_true hc).elim) | rfl)
theorem aug_sub {i : Expr} (h : (!isSlice i) = true) : ∀ ov iv new, augStore i ov iv new = (do holding [new, ov, iv] (setItem ov iv new); release [new, ov, iv] []; pure .next) := by
  intro ov iv new
  cases i <;> first | rfl | (exact (Bool.false_ne_true h).elim)
theorem swapped_no {t e : Expr} {env : Env} (h : (isSeqT t && isTupE e) = false) : swappedStores [t] e env = pure none := by
  cases t <;> first | rfl | (cases e <;> first | rfl | (exact (Bool.false_ne_true h.symm).elim))
theorem asg_one {t : Expr} {env : Env} (h : (!isStar t) = true) : (assignEach [t] env).map (·.2) = [assign t env] := assignEach_cons h
theorem nsw_ok (g : Good G an W c X) {t v : Expr} {l : Nat} (h : nsw c t v = true) : swapsWithSole [t] v l X.env = pure false := by
  unfold nsw at h
  split at h
  · rename_i x p elt gens scope pos
    have h := not_of_not h
    show (pure (X.env.blockKind == .function && X.env.kindOf x == some .local && p.line == pos.line && !(scope.names.any fun (n, k) => n == x && (k == .local || k == .cell))) : Sem Bool) = pure false
    congr 1
    have hk : (X.env.kindOf x == some .local) = decide (c.sc.names.lookup x = some .local) := by
      show (X.env.scope.names.lookup x == some .local) = _
      rw [g.sc]
      exact Bool.beq_eq_decide_eq _ _
    rw [hk]
    rw [Bool.and_assoc, Bool.and_assoc, ← Bool.and_assoc (decide _), h, Bool.and_false]
  · cases h
theorem sw_of (g : Good G an W c X) {y : Str} {py vpos : Pos} {elt : Expr} {gs : List Comprehension} {scope : Scope} {l : Nat} (w0 : c.sc.kind = .function) (w2 : c.sc.names.lookup y = some .local) (w3 : (py.line == vpos.line) = true) (w4 : (!(scope.names.any fun (n, k) => n == y && (k == .local || k == .cell))) = true) :
    swapsWith (.ListComp elt gs scope vpos) (some (.Name y py)) l X.env = pure true :=
  sw_true (by rw [g.sc]; exact w0) (by rw [g.sc]; exact w2) w3 (not_of_not w4)
theorem sw_of2 (g : Good G an W c X) {y : Str} {py vpos : Pos} {kx vx : Expr} {gs : List Comprehension} {scope : Scope} {l : Nat} (w0 : c.sc.kind = .function) (w2 : c.sc.names.lookup y = some .local) (w3 : (py.line == vpos.line) = true) (w4 : (!(scope.names.any fun (n, k) => n == y && (k == .local || k == .cell))) = true) :
    swapsWith (.DictComp kx vx gs scope vpos) (some (.Name y py)) l X.env = pure true := by
  have hk : X.env.scope.kind = .function := by rw [g.sc]; exact w0
  have ky : X.env.kindOf y = some .local := by show X.env.scope.names.lookup y = _; rw [g.sc]; exact w2
  have hb : X.env.blockKind = .function := by unfold Env.blockKind; rw [hk]; rfl
  unfold swapsWith
  simp only [hb, ky, not_of_not w4, Expr.pos, w3]
  rfl
theorem ps_setDc {i : Nat} {y : Str} {py : Pos} {kx vx tg iter : Expr} {ifs : List Expr} {scope : Scope} {own : List (Str × Nat)} {pos spos : Pos} {wi : TI} {g : TG} {tt : TT} {tk tv : TE} (hc : X.calm = true) (hN : X.N.Nodup) (hy : X.N[i]? = some y) (hyl : X.env.scope.names.lookup y = some .local)
    (hsw : swapsWith (.DictComp kx vx [⟨tg, iter, ifs, 0⟩] scope pos) (some (.Name y py)) spos.line X.env = pure true) (hi : PI X tg iter wi) (ok : BlkOk X.N X.env.scope scope own)
    (hg : ∀ (s : Shared) (H : Hp) (C : Addr) (cl : List (Str × Addr)) (fp : List Addr), PG (X.blk s H scope (compEnvC scope cl C X.env) fp) tg g) (ht : ∀ (s : Shared) (H : Hp) (C : Addr) (cl : List (Str × Addr)) (fp : List Addr), PTs (X.blk s H scope (compEnvC scope cl C X.env) fp) ifs tt)
    (hk : ∀ (s : Shared) (H : Hp) (C : Addr) (cl : List (Str × Addr)) (fp : List Addr), PE (X.blk s H scope (compEnvC scope cl C X.env) fp) kx tk)
    (he : ∀ (s : Shared) (H : Hp) (C : Addr) (cl : List (Str × Addr)) (fp : List Addr), PE (X.blk s H scope (compEnvC scope cl C X.env) fp) vx tv) (hs : ∀ x, foldedSetIterable iter X.env x = pure x) :
    PS X (.Assign [.Name y py] (.DictComp kx vx [⟨tg, iter, ifs, 0⟩] scope pos) spos) (tAsg (tDc wi g tt tk tv (own.map (·.2))) (gName i)) := by
  refine ⟨fun pins s σ H D I h => ?_⟩
  rw [exec_Assign_Name_used _ _ _ _ hsw]
  refine wpAny_bind (wpAny_standAt (wpAny_bind ?_))
  show wpAny _ X.A (do let _ ← comprehension (.DictComp kx vx [⟨tg, iter, ifs, 0⟩] scope pos) scope X.env (firstIterPos [⟨tg, iter, ifs, 0⟩] pos) newDict false (eval iter X.env) (some (assign (.Name y py) X.env))) _ _ s
  have h : tDc wi g tt tk tv (own.map (·.2)) σ H (fun x H1 => gName i x σ H1 D.nx) := h
  refine wpAny_bind (thn (dc_core (Qf := fun _ s' => SP X pins D .next s') hc hN I hi ok hg ht hk he hs h fun L C s' m H' I' q hn f => ?_) fun _ s' hq => wpAny_pure (wpAny_pure hq))
  show wpAny _ _ (assign (.Name y py) X.env (.ref L)) _ _ _
  refine wpAny_assign_Name (store_ok2 (v := V.ref L) I' hN hy (.inl hyl) rfl (fun s2 I2 ⟨a, sb, ha⟩ => ?_) (.inr hyl))
  obtain ⟨f0, f1, f2, f3, f4, f5⟩ := f
  have haC : C ≠ a := by
    rcases ha with z | z
    · rw [z]; exact f1
    · exact fun e => f4 y a z e.symm
  refine ⟨m, hn.sameBut sb haC, fun h3 sb3 => ?_⟩
  exact ⟨_, H', I2.turned (t' := s2.toks) (fun b o hb e => (sb3.2 b hb).trans e) f0 f1 f3 f4 f5, q⟩
theorem set_same {σ : L2.St} {i : Nat} {v : V} (h : σ[i]? = some (some v)) : σ.set i (some v) = σ := by
  apply List.ext_getElem?
  intro j
  by_cases e : i = j
  · subst e
    rw [List.getElem?_set_self (List.getElem?_eq_some_iff.mp h).1, h]
  · rw [List.getElem?_set_ne e]
theorem lc_key {m : Bool} {own : List (Str × Nat)} {elt : E} {tg : TG1} {it : IT} {cond : EO} : ∀ (σ : L2.St) (H : Hp) (Q : VK), lift X an (wpE G W (.lc m own elt tg it cond)) σ H Q →
    tLc (liftI X an (wpI G W it)) (gW X .top (own.map (·.2)) (bindT G (fun _ _ _ => False) tg)) (liftT X .top (wpC G (fun _ _ _ => False) cond)) (lift X .top (wpE G (fun _ _ _ => False) elt)) (own.map (·.2)) σ H Q := by
  rintro σ H Q ⟨P, ρ, M, R, hE, hR, hw, k⟩
  refine ⟨P, ρ, M, _, hE, hR, hw, fun xs gd M1 h1 J H1 e1 r1 hz hJ => ?_⟩
  intro D0 hD
  refine lc_fold (gW X .top (own.map (·.2)) (bindT G (fun _ _ _ => False) tg)) ?_ (hE.ext e1) r1 hJ hD hz h1 ?_
  · intro P v H M d ρ1 RD Q' pd hE hR b kk
    exact ⟨P, d, ρ1, M, RD, pd, hE, hR, b, fun ρ' M' hd σ' H' hw e r E' => kk ρ' M' hd σ' H' (hw.trans wipe_idem) e r E'⟩
  · intro ds M' hd us H' q1 q2 e r pp
    unfold newL at hd
    split at hd
    · exact k _ _ (hd D0 q2) _ _ (e1.trans (e.take hD)) (r.own (r1.nop hD) (an.cl _ _ _ _ _ (e.take hD) r1.ah) ⟨us, q1, pp.own⟩) (.ref D0)
    · exact k _ _ hd _ _ (e1.trans e) (r.show' (fun _ p => .inl p) (an.cl _ _ _ _ _ e r1.ah)) (.lst q1 q2 (r1.nop hD) (pp.show' fun _ p => .inl p))
theorem lc2_key {m : Bool} {own : List (Str × Nat)} {vs1 : List Nat} {elt : E} {tg tg1 : TG1} {it it1 : IT} {cond cond1 : EO} : ∀ (σ : L2.St) (H : Hp) (Q : VK), lift X an (wpE G W (.lc2 m own vs1 elt tg it cond tg1 it1 cond1)) σ H Q →
    tLc2 (liftI X an (wpI G W it)) (gW X .top (own.map (·.2)) (bindT G (fun _ _ _ => False) tg)) (liftT X .top (wpC G (fun _ _ _ => False) cond)) (liftI X .top (wpI G (fun _ _ _ => False) it1)) (gW X .top vs1 (bindT G (fun _ _ _ => False) tg1)) (liftT X .top (wpC G (fun _ _ _ => False) cond1)) (lift X .top (wpE G (fun _ _ _ => False) elt)) (own.map (·.2)) vs1 σ H Q := by
  rintro σ H Q ⟨P, ρ, M, R, hE, hR, hw, k⟩
  refine ⟨P, ρ, M, _, hE, hR, hw, fun xs gd M1 h1 J H1 e1 r1 hz hJ => ?_⟩
  intro D0 hD
  refine lc2_fold (gW X .top (own.map (·.2)) (bindT G (fun _ _ _ => False) tg)) (gW X .top vs1 (bindT G (fun _ _ _ => False) tg1)) ?_ ?_ (hE.ext e1) r1 hJ hD h1 ?_
  · intro P v H M d ρ1 RD Q' pd hE hR b kk
    exact ⟨P, d, ρ1, M, RD, pd, hE, hR, b, fun ρ' M' hd σ' H' hw e r E' => kk ρ' M' hd σ' H' (hw.trans wipe_idem) e r E'⟩
  · intro σ2 P v H M d ρ1 RD Q' pd hE hR b kk
    exact ⟨P, d, ρ1, M, RD, pd, hE, hR, b, fun ρ' M' hd σ' H' hw e r E' => kk ρ' M' hd σ' H' (hw.trans wipe_idem) e r E'⟩
  · intro ds M' hd us H' q1 q2 e r pp
    unfold newL at hd
    split at hd
    · exact k _ _ (hd D0 q2) _ _ (e1.trans (e.take hD)) (r.own (r1.nop hD) (an.cl _ _ _ _ _ (e.take hD) r1.ah) ⟨us, q1, pp.own⟩) (.ref D0)
    · exact k _ _ hd _ _ (e1.trans e) (r.show' (fun _ p => .inl p) (an.cl _ _ _ _ _ e r1.ah)) (.lst q1 q2 (r1.nop hD) (pp.show' fun _ p => .inl p))
theorem dc_key {own : List (Str × Nat)} {kx vx : E} {tg : TG1} {it : IT} {cond : EO} : ∀ (σ : L2.St) (H : Hp) (Q : VK), lift X an (wpE G W (.dc true own kx vx tg it cond)) σ H Q →
    tDc (liftI X an (wpI G W it)) (gW X .top (own.map (·.2)) (bindT G (fun _ _ _ => False) tg)) (liftT X .top (wpC G (fun _ _ _ => False) cond)) (lift X .top (wpE G (fun _ _ _ => False) kx)) (lift X .top (wpE G (fun _ _ _ => False) vx)) (own.map (·.2)) σ H Q := by
  rintro σ H Q ⟨P, ρ, M, R, hE, hR, hw, k⟩
  refine ⟨P, ρ, M, _, hE, hR, hw, fun xs gd M1 h1 J H1 e1 r1 hz hJ => ?_⟩
  intro D0 hD
  refine dc_fold (gW X .top (own.map (·.2)) (bindT G (fun _ _ _ => False) tg)) ?_ (hE.ext e1) r1 hJ hD hz h1 ?_
  · intro P v H M d ρ1 RD Q' pd hE hR b kk
    exact ⟨P, d, ρ1, M, RD, pd, hE, hR, b, fun ρ' M' hd σ' H' hw e r E' => kk ρ' M' hd σ' H' (hw.trans wipe_idem) e r E'⟩
  · intro ds M' hd us H' q1 q2 e r pp
    exact k _ _ (hd D0 q2) _ _ (e1.trans (e.take hD)) (r.own (r1.nop hD) (an.cl _ _ _ _ _ (e.take hD) r1.ah) ⟨us, q1, pp.own⟩) (.ref D0)
/-- what follows a statement -/
def KS (X : Cx) (an : An) (P : Addr → Prop) (H : Hp) (M : Mp) (R : EndsD) (Dn : Ends) : Prop :=
  (∀ ρ' M', R.nx ρ' M' → ∀ σ' H', Ext H M H' M' → RelH (wd X an P) H' M' → RepE (wd X an P) H' M' ρ' σ' → Dn.nx σ' H') ∧
  (∀ d M', R.rt d M' → ∀ v H', Ext H M H' M' → RelH (wd X an P) H' M' → Rep (wd X an P) H' M' d v → Dn.rt v H') ∧
  (∀ ρ' M', R.bk ρ' M' → ∀ σ' H', Ext H M H' M' → RelH (wd X an P) H' M' → RepE (wd X an P) H' M' ρ' σ' → Dn.bk σ' H') ∧
  (∀ ρ' M', R.ct ρ' M' → ∀ σ' H', Ext H M H' M' → RelH (wd X an P) H' M' → RepE (wd X an P) H' M' ρ' σ' → Dn.ct σ' H')
theorem KS.later {P : Addr → Prop} {H H1 : Hp} {M M1 : Mp} {R : EndsD} {Dn : Ends} (k : KS X an P H M R Dn) (e : Ext H M H1 M1) : KS X an P H1 M1 R Dn :=
  ⟨fun ρ' M' h σ' H' e1 => k.1 ρ' M' h σ' H' (e.trans e1), fun d M' h v H' e1 => k.2.1 d M' h v H' (e.trans e1), fun ρ' M' h σ' H' e1 => k.2.2.1 ρ' M' h σ' H' (e.trans e1), fun ρ' M' h σ' H' e1 => k.2.2.2 ρ' M' h σ' H' (e.trans e1)⟩
theorem asg_lift {te : TD} {b : TGD} : ∀ (Dn : Ends) (σ : L2.St) (H : Hp), liftS X an (fun R ρ M => te ρ M fun d M1 => b d ρ M1 R.nx) Dn σ H → tAsg (lift X an te) (liftG X an b) Dn σ H := by
  rintro Dn σ H ⟨P, ρ, M, R, hE, hR, hw, k⟩
  refine ⟨P, ρ, M, _, hE, hR, hw, fun d M1 h1 v1 H1 e1 r1 p1 => ?_⟩
  exact ⟨P, d, ρ, M1, _, p1, hE.ext e1, r1, h1, fun ρ' M' h2 σ' H' e2 r2 E2 => k.1 _ _ h2 _ _ (e1.trans e2) r2 E2⟩
/-- no argument: X() of an own exception class -/
theorem pmk_own0 {C : Addr} {bmB : List Value} {B newId initId : String} {x : Str} {p pos : Pos} (F : ExcBaseFacts B newId initId bmB) (q : PySem.W.excIn X.K C bmB newId = true) (gC : X.mg x = some (.ref C))
    (kC : PySem.W.keepIn X.K (.ref C) = true) (r : Raises X (.ref C)) (hg : Gl X x) (hdb : (x == ("__debug__" : Str)) = false) :
    PMk X (.Call (.Name x p) [] [] pos) (fun σ H Q => Q (.ref C) none H) := by
  intro pins s σ H Q I h
  refine wpAny_Call_Name_kw (ld_glob I hg gC ?_ hdb)
  refine PySem.W.callWith_K0 I.kIn kC ?_
  show wpAny _ _ (call (.ref C) []) _ _ _
  obtain ⟨bm, N, nm, qn, bs, hdct, sn, sub, ab, col, dd, k0, k1, k2, k3, k5, mN, hC, hN, hni, T⟩ := exc_obj I.kIn q
  refine wpAny_call_exc_subT F T hC hN hni (fun h' e hm => ?_) (Nat.zero_le _)
  exact mk_of I hm r h (I.hok.gone hm.new)
theorem raise_mk {k : Str} {fs : List Str} {es : EL} {es' : List Expr} {p pos : Pos} (q : ExcF X k fs) (h : chkL c es es' = true) (hg : Gl X k) (hdb : (k == ("__debug__" : Str)) = false) (ha : PA X es' (liftAn X an (elLen es) (wpL G W es))) :
    PMk X (.Call (.Name k p) es' [] pos) (fun σ H Q => ∃ P ρ M R, RepE (wd X an P) H M ρ σ ∧ RelH (wd X an P) H M ∧ wpL G W es ρ M R ∧ ∀ ds M', R ds M' → ds.length = fs.length ∧ ∀ cls dd H', Ext H M H' M' → RelH (wd X an P) H' M' → RepX (wd X an P) H' M' (k, fs.zip ds) cls dd → Q cls dd H') := by
  obtain ⟨rfl, C, x⟩ := q
  have r := raises_own (X := X) x.sb x.ty
  cases es' with
  | nil =>
    have pm := pmk_own0 (p := p) (pos := pos) PySem.F.excBase_ValueError x.x x.g x.kp r hg hdb
    intro pins s σ H Q I hq
    refine pm pins s σ H Q I ?_
    obtain ⟨P, ρ, M, R, hE, hR, hw, kk⟩ := hq
    cases es with
    | nil => exact (kk _ _ hw).2 _ _ _ .refl hR ⟨C, rfl, x.g, .inl ⟨rfl, rfl⟩⟩
    | cons _ _ => cases h
  | cons e1 es1 =>
    intro pins s σ H Q I hq
    have hs := chkL_stars h
    unfold noStars at hs
    obtain ⟨s1, s2⟩ := and_split hs
    refine pmk_ownA (p := p) PySem.F.excBase_ValueError x.x x.g x.kp r hg ha hdb (star_of s1) (stars_none s2) pins s σ H Q I ?_
    obtain ⟨P, ρ, M, R, hE, hR, hw, kk⟩ := hq
    refine ⟨P, ρ, M, R, hE, hR, hw, fun ds M1 h1 vs H1 hl e1 r1 p1 => ⟨?_, ?_⟩⟩
    · rw [← p1.length, (kk _ _ h1).1]
      exact Nat.zero_le _
    · exact (kk _ _ h1).2 _ _ _ e1 r1 ⟨C, rfl, x.g, .inl ⟨rfl, rfl⟩⟩
end
theorem RepE.anc {X : Cx} {a b : An} {P : Addr → Prop} {H : Hp} {M : Mp} {ρ : Env1} {σ : L2.St} (h : RepE (wd X a P) H M ρ σ) : RepE (wd X b P) H M ρ σ := ⟨h.1, fun i d e => let ⟨v, h1, h2⟩ := h.2 i d e; ⟨v, h1, h2.show' fun _ p => p⟩⟩
theorem RepE.unset {F : Wd} {H : Hp} {M : Mp} {ρ : Env1} {σ : L2.St} {i : Nat} (r : RepE F H M ρ σ) : RepE F H M (ρ.set i none) (σ.set i none) := by
  refine ⟨by simp [r.1], fun j e hj => ?_⟩
  by_cases hij : i = j
  · subst hij
    rw [List.getElem?_set] at hj
    simp at hj
  · rw [List.getElem?_set_ne hij] at hj ⊢
    exact r.2 j e hj
theorem RepX.anc {X : Cx} {a b : An} {P : Addr → Prop} {H : Hp} {M : Mp} {x : XD} {cls : Value} {dd : Option Addr} (h : RepX (wd X a P) H M x cls dd) : RepX (wd X b P) H M x cls dd := by
  obtain ⟨C, c1, c2, c3⟩ := h
  refine ⟨C, c1, c2, ?_⟩
  rcases c3 with c3 | ⟨n, d, vs, d1, d2, d3⟩
  · exact .inl c3
  · exact .inr ⟨n, d, vs, d1, d2, fun f e he => let ⟨v, v1, v2⟩ := d3 f e he; ⟨v, v1, v2.show' fun _ p => p⟩⟩
theorem An.and_drop {X : Cx} {a b : An} {P : Addr → Prop} {H : Hp} {M : Mp} (r : RelH (wd X (a.and b) P) H M) : RelH (wd X a P) H M := r.show' (fun _ p => p) r.ah.1
theorem Good.tr {G : Gam} {an : An} {W W' : XW} {c : CT} {X : Cx} {an' : An} (g : Good G an W c X) (hh : c.hot = false) {pn : List (Addr × Obj)} {xe : Value → Shared → Prop} (tk : Takes (X.tr pn xe) (liftX X an' W')) : Good G an' W' c (X.tr pn xe) := by
  refine ⟨g.N, g.sc, g.ws, g.nd, g.units, g.calm, g.room, g.blt, g.cst, fun hh i x n sp e1 e => ?_, fun hh i k m k' m' n sp e1 e => ?_, g.fl, fun i k k' fs e1 e => ?_, fun _ => tk, g.sub, g.xf, g.xi, fun a x e hz => ?_, g.fr⟩
  · obtain ⟨f, h1, h2⟩ := g.fn hh i x n sp e1 e
    exact ⟨f, h1, ⟨h2.ok, h2.kp⟩⟩
  · obtain ⟨z1, z2, C, f, h1, h2, h3, h4, h5⟩ := g.mt hh i k m k' m' n sp e1 e
    exact ⟨z1, z2, C, f, h1, h2, h3, ⟨h4.ok, h4.kp⟩, h5⟩
  · obtain ⟨z1, h1, C, h2⟩ := g.exc i k k' fs e1 e
    exact ⟨z1, h1, C, ⟨h2.g, h2.x, h2.kp, h2.sb, h2.ty⟩⟩
  · rw [hh] at hz; cases hz
/-- the fields of an exception stand -/
def anX (X : Cx) (P : Addr → Prop) (x : XD) (d : Option Addr) : An := ⟨fun P' H M => P' = P ∧ (x.2 ≠ [] → ∃ dd vs, d = some dd ∧ H dd = some (.xd vs) ∧ M dd = none ∧ ∀ f e, x.2.lookup f = some e → ∃ v, vs.lookup f = some v ∧ Rep (wd X .top P) H M e v),
  fun P' H M H' M' e h => ⟨h.1, fun n => let ⟨dd, vs, h1, h2, h3, h4⟩ := h.2 n; ⟨dd, vs, h1, (e.keep _ _ h3 h2).1, (e.keep _ _ h3 h2).2, fun f e0 he => let ⟨v, v1, v2⟩ := h4 f e0 he; ⟨v, v1, v2.ext e⟩⟩⟩⟩
theorem Good.suite {G : Gam} {an : An} {W : XW} {c : CT} {X : Cx} (g : Good G an W c X) {a : Addr} {x : XD} {oe : Obj} {pn : List (Addr × Obj)} {cls : Value} {d : Option Addr} (hz : Zc cls d oe) (hf : ∃ vs, oe.data = .fields vs) {P : Addr → Prop} {C : Addr} (m1 : X.mg x.1 = some (.ref C)) (ec : cls = .ref C) (hd : x.2 = [] → d = none) {an0 : An} :
    Good { G with cur := some (a, x) } (an0.and (anX X P x d)) (fun _ _ _ => False) { c with hot := true } (X.suite a ((a, oe) :: pn)) := by
  subst ec
  refine ⟨g.N, g.sc, g.ws, g.nd, g.units, (fun z => by cases z), (fun z => by cases z), g.blt, g.cst, (fun z => by cases z), (fun z => by cases z), g.fl, fun i k k' fs e1 e => ?_, (fun z => by cases z), g.sub, g.xf, g.xi, fun a' x' e _ => ?_, g.fr⟩
  · obtain ⟨z1, h1, C, h2⟩ := g.exc i k k' fs e1 e
    exact ⟨z1, h1, C, ⟨h2.g, h2.x, h2.kp, h2.sb, h2.ty⟩⟩
  · cases e
    refine ⟨X, oe, pn, C, d, rfl, m1, hz, hf, hd, fun P' H M r n => ?_⟩
    obtain ⟨e, h⟩ := r.ah.2
    have e : P' = P := e
    subst e
    obtain ⟨dd, vs, h1, h2, h3, h4⟩ := h n
    exact ⟨dd, vs, h1, h2, fun f e0 he => let ⟨v, v1, v2⟩ := h4 f e0 he; ⟨v, v1, v2.show' (fun _ p => p)⟩⟩
section
mutual
theorem sndS : ∀ (t : S) {G : Gam} {an : An} {W : XW} {c : CT} {X : Cx} {st : Stmt}, Good G an W c X → (c.hot = false → PassesOwn (model X.prog X.w) X.A X.env X.xe) → chkS c t st = true → PS X st (liftS X an (wpS t G W))
  | .asg tg e, G, an, W, c, X, st, g, hp, h => by
    unfold chkS at h; split at h
    · rename_i t v pos
      obtain ⟨h, h5⟩ := and_split h
      obtain ⟨h, h4⟩ := and_split h
      obtain ⟨h, h3⟩ := and_split h
      obtain ⟨h1, h2⟩ := and_split h
      have hs : swapsWithSole [t] v pos.line X.env = pure false := by
        rcases Bool.or_eq_true_iff.mp h5 with q | q
        · exact swaps_tgt (not_of_not q)
        · exact nsw_ok g q
      exact PS.imp (ps_asg (sndE e g h2).1 (sndT tg g h1) hs (swapped_no (not_of_not h4)) (asg_one h3)) asg_lift
    · cases h
  | .asgc i e, G, an, W, c, X, st, g, hp, h => by
    unfold chkS at h; split at h
    · rename_i y py v pos
      split at h
      · rename_i m own elt tg it cond elt' tg' it' ifs scope vpos
        obtain ⟨h, hh⟩ := and_split h
        have hh := not_of_not hh
        obtain ⟨h, h7⟩ := and_split h
        obtain ⟨h, h6⟩ := and_split h
        obtain ⟨h, h5⟩ := and_split h
        obtain ⟨h, h4⟩ := and_split h
        obtain ⟨h, h3⟩ := and_split h
        obtain ⟨h, h2⟩ := and_split h
        obtain ⟨h, h1⟩ := and_split h
        obtain ⟨h, w4⟩ := and_split h
        obtain ⟨h, w3⟩ := and_split h
        obtain ⟨h, w2⟩ := and_split h
        obtain ⟨w1, w0⟩ := and_split h
        have w1 := of_decide_eq_true w1
        have w0 := of_decide_eq_true w0
        have w2 := of_decide_eq_true w2
        have hb : BlkOk X.N X.env.scope scope own := blkOk_by (by rw [g.N, g.sc]; exact h1)
        have hl : X.env.scope.names.lookup y = some .local := by rw [g.sc]; exact w2
        refine PS.imp (ps_setLc (i := i) (g := gW X .top (own.map (·.2)) (bindT G (fun _ _ _ => False) tg)) (tt := liftT X .top (wpC G (fun _ _ _ => False) cond)) (te := lift X .top (wpE G (fun _ _ _ => False) elt)) (g.calm hh) g.nd (by rw [g.N]; exact w1) hl (sw_of g w0 w2 w3 w4) (sndI it g h4) hb (fun s H C cl fp => sndTW tg (g.blk hh (s := s) (H := H) (C := C) (cl := cl) (fp := fp)) h3 h2) (fun s H C cl fp => sndC cond (g.blk hh (s := s) (H := H) (C := C) (cl := cl) (fp := fp)) h5) (fun s H C cl fp => (sndE elt (g.blk hh (s := s) (H := H) (C := C) (cl := cl) (fp := fp)) h6).1) (fun _ => folded_of h7)) ?_
        rintro Dn σ H ⟨P, ρ, M, R, hE, hR, hw, k⟩
        refine lc_key σ H _ ⟨P, ρ, M, _, hE, hR, hw, fun d M1 h1 v1 H1 e1 r1 p1 => ?_⟩
        exact k.1 _ _ h1 _ _ e1 r1 ((hE.ext e1).set p1)
      · rename_i m own elt tg it cond elt' tg' it' ifs scope vpos
        obtain ⟨h, ht⟩ := and_split h
        obtain ⟨h, hh⟩ := and_split h
        have hh := not_of_not hh
        obtain ⟨h, h7⟩ := and_split h
        obtain ⟨h, h6⟩ := and_split h
        obtain ⟨h, h5⟩ := and_split h
        obtain ⟨h, h4⟩ := and_split h
        obtain ⟨h, h3⟩ := and_split h
        obtain ⟨h, h2⟩ := and_split h
        obtain ⟨h, h1⟩ := and_split h
        obtain ⟨h, w4⟩ := and_split h
        obtain ⟨h, w3⟩ := and_split h
        obtain ⟨h, w2⟩ := and_split h
        obtain ⟨w1, w0⟩ := and_split h
        have w1 := of_decide_eq_true w1
        have w0 := of_decide_eq_true w0
        have w2 := of_decide_eq_true w2
        have hb : BlkOk X.N X.env.scope scope own := blkOk_by (by rw [g.N, g.sc]; exact h1)
        have hl : X.env.scope.names.lookup y = some .local := by rw [g.sc]; exact w2
        refine PS.imp (ps_setLx (i := i) (g.calm hh) (g.fr ht).1 (g.fr ht).2 (g.tk hh) g.nd (by rw [g.N]; exact w1) hl (sw_of g w0 w2 w3 w4) (sndI it g h4) hb (fun _ => folded_of h7)) ?_
        rintro Dn σ H ⟨P, ρ, M, R, hE, hR, hw, k⟩
        refine ⟨P, ρ, M, _, hE, hR, hw, fun xs gd M1 h1 J H1 e1 r1 hz hJ => ?_⟩
        refine ⟨liftX X (anB P H1 M1) (fun x _ M' => W x ρ M'), gW X (anB P H1 M1) (own.map (·.2)) (bindT G (fun x _ M' => W x ρ M') tg), liftT X (anB P H1 M1) (wpC G (fun x _ M' => W x ρ M') cond), lift X (anB P H1 M1) (wpE G (fun x _ M' => W x ρ M') elt), liftX_blk (hE.ext e1) r1, fun s H C cl fp xe tk => ?_, fun D0 hD => ?_⟩
        · have gb := g.blkE hh tk
          exact ⟨sndTW tg gb h3 h2, sndC cond gb h5, (sndE elt gb h6).1⟩
        · refine lx_fold (Q := fun x H1 => gName i x σ H1 Dn.nx) (hE.ext e1) r1 hJ hD hz h1 fun ds M' hd us H' q1 q2 e r pp => ?_
          unfold newL at hd
          split at hd
          · exact k.1 _ _ (hd D0 q2) _ _ (e1.trans (e.take hD)) (r.own (r1.nop hD) (an.cl _ _ _ _ _ (e.take hD) r1.ah) ⟨us, q1, pp.own⟩) ((hE.ext (e1.trans (e.take hD))).set (.ref D0))
          · exact k.1 _ _ hd _ _ (e1.trans e) (r.show' (fun _ p => .inl p) (an.cl _ _ _ _ _ e r1.ah)) ((hE.ext (e1.trans e)).set (.lst q1 q2 (r1.nop hD) (pp.show' fun _ p => .inl p)))
      · rename_i m own vs1 elt tg it cond tg1 it1 cond1 elt' tg' it' ifs tg1' it1' ifs1 scope vpos
        obtain ⟨h, hh⟩ := and_split h
        have hh := not_of_not hh
        obtain ⟨h, hs1⟩ := and_split h
        obtain ⟨h, hs⟩ := and_split h
        obtain ⟨h, h11⟩ := and_split h
        obtain ⟨h, h10⟩ := and_split h
        obtain ⟨h, h9⟩ := and_split h
        obtain ⟨h, h8⟩ := and_split h
        obtain ⟨h, h7⟩ := and_split h
        obtain ⟨h, h6⟩ := and_split h
        obtain ⟨h, h5⟩ := and_split h
        obtain ⟨h, h4⟩ := and_split h
        obtain ⟨h, h3⟩ := and_split h
        obtain ⟨h, h2⟩ := and_split h
        obtain ⟨h, h1⟩ := and_split h
        obtain ⟨h, w4⟩ := and_split h
        obtain ⟨h, w3⟩ := and_split h
        obtain ⟨h, w2⟩ := and_split h
        obtain ⟨w1, w0⟩ := and_split h
        have w1 := of_decide_eq_true w1
        have w0 := of_decide_eq_true w0
        have w2 := of_decide_eq_true w2
        have hb : BlkOk X.N X.env.scope scope own := blkOk_by (by rw [g.N, g.sc]; exact h1)
        have hl : X.env.scope.names.lookup y = some .local := by rw [g.sc]; exact w2
        have hv : ∀ i ∈ vs1, i ∈ own.map (·.2) := fun i hi => of_decide_eq_true (List.all_eq_true.mp h6 i hi)
        refine PS.imp (ps_setLc2 (i := i) (g := gW X .top (own.map (·.2)) (bindT G (fun _ _ _ => False) tg)) (tt := liftT X .top (wpC G (fun _ _ _ => False) cond)) (wi1 := liftI X .top (wpI G (fun _ _ _ => False) it1)) (g1 := gW X .top vs1 (bindT G (fun _ _ _ => False) tg1)) (tt1 := liftT X .top (wpC G (fun _ _ _ => False) cond1)) (te := lift X .top (wpE G (fun _ _ _ => False) elt)) (g.calm hh) g.nd (by rw [g.N]; exact w1) hl (sw_of g w0 w2 w3 w4) (sndI it g h4) hb hv (fun s H C cl fp => sndTW tg (g.blk hh (s := s) (H := H) (C := C) (cl := cl) (fp := fp)) h3 h2) (fun s H C cl fp => sndC cond (g.blk hh (s := s) (H := H) (C := C) (cl := cl) (fp := fp)) h5) (fun s H C cl fp => blk_I (sndI it1 (g.blk hh (s := s) (H := H) (C := C) (cl := cl) (fp := fp)) h9)) (fun s H C cl fp => sndTW tg1 (g.blk hh (s := s) (H := H) (C := C) (cl := cl) (fp := fp)) h8 h7) (fun s H C cl fp => sndC cond1 (g.blk hh (s := s) (H := H) (C := C) (cl := cl) (fp := fp)) h10) (fun s H C cl fp => (sndE elt (g.blk hh (s := s) (H := H) (C := C) (cl := cl) (fp := fp)) h11).1) (fun _ => folded_of hs) (fun _ _ => folded_of hs1)) ?_
        rintro Dn σ H ⟨P, ρ, M, R, hE, hR, hw, k⟩
        refine lc2_key σ H _ ⟨P, ρ, M, _, hE, hR, hw, fun d M1 h1 v1 H1 e1 r1 p1 => ?_⟩
        exact k.1 _ _ h1 _ _ e1 r1 ((hE.ext e1).set p1)
      · rename_i own kx vx tg it cond k' v' tg' it' ifs scope vpos
        obtain ⟨h, hh⟩ := and_split h
        have hh := not_of_not hh
        obtain ⟨h, h8⟩ := and_split h
        obtain ⟨h, h7⟩ := and_split h
        obtain ⟨h, h6⟩ := and_split h
        obtain ⟨h, h5⟩ := and_split h
        obtain ⟨h, h4⟩ := and_split h
        obtain ⟨h, h3⟩ := and_split h
        obtain ⟨h, h2⟩ := and_split h
        obtain ⟨h, h1⟩ := and_split h
        obtain ⟨h, w4⟩ := and_split h
        obtain ⟨h, w3⟩ := and_split h
        obtain ⟨h, w2⟩ := and_split h
        obtain ⟨w1, w0⟩ := and_split h
        have w1 := of_decide_eq_true w1
        have w0 := of_decide_eq_true w0
        have w2 := of_decide_eq_true w2
        have hb : BlkOk X.N X.env.scope scope own := blkOk_by (by rw [g.N, g.sc]; exact h1)
        have hl : X.env.scope.names.lookup y = some .local := by rw [g.sc]; exact w2
        refine PS.imp (ps_setDc (i := i) (g := gW X .top (own.map (·.2)) (bindT G (fun _ _ _ => False) tg)) (tt := liftT X .top (wpC G (fun _ _ _ => False) cond)) (tk := lift X .top (wpE G (fun _ _ _ => False) kx)) (tv := lift X .top (wpE G (fun _ _ _ => False) vx)) (g.calm hh) g.nd (by rw [g.N]; exact w1) hl (sw_of2 g w0 w2 w3 w4) (sndI it g h4) hb (fun s H C cl fp => sndTW tg (g.blk hh (s := s) (H := H) (C := C) (cl := cl) (fp := fp)) h3 h2) (fun s H C cl fp => sndC cond (g.blk hh (s := s) (H := H) (C := C) (cl := cl) (fp := fp)) h5) (fun s H C cl fp => (sndE kx (g.blk hh (s := s) (H := H) (C := C) (cl := cl) (fp := fp)) h6).1) (fun s H C cl fp => (sndE vx (g.blk hh (s := s) (H := H) (C := C) (cl := cl) (fp := fp)) h7).1) (fun _ => folded_of h8)) ?_
        rintro Dn σ H ⟨P, ρ, M, R, hE, hR, hw, k⟩
        refine dc_key σ H _ ⟨P, ρ, M, _, hE, hR, hw, fun d M1 h1 v1 H1 e1 r1 p1 => ?_⟩
        exact k.1 _ _ h1 _ _ e1 r1 ((hE.ext e1).set p1)
      · cases h
    · cases h
  | .par i j a b, G, an, W, c, X, st, g, hp, h => by
    unfold chkS at h; split at h
    · obtain ⟨h, h2⟩ := and_split h
      cases h2
    · cases h
  | .aug i op e, G, an, W, c, X, st, g, hp, h => by
    unfold chkS at h; split at h
    · obtain ⟨h, h3⟩ := and_split h
      obtain ⟨h1, h2⟩ := and_split h
      have e := of_decide_eq_true h2
      subst e
      obtain ⟨a1, a2, a3⟩ := wr_of g h1
      refine PS.imp (ps_aug g.nd a1 a2 (sndE e g h3).1 (augD_ok (an := an) op) a3) ?_
      rintro Dn σ H ⟨P, ρ, M, R, hE, hR, hw, k⟩
      unfold wpS at hw
      split at hw
      · rename_i x es
        obtain ⟨v, q1, q2⟩ := hE.2 i _ (slot_get es)
        refine ⟨v, q1, P, ρ, M, _, hE, hR, hw, fun y M1 h1 v1 H1 e1 r1 p1 => ?_⟩
        refine ⟨P, x, y, M1, _, q2.ext e1, p1, r1, h1, fun z M2 h2 v2 H2 e2 r2 p2 => ?_⟩
        exact k.1 _ _ h2 _ _ (e1.trans e2) r2 (((hE.ext e1).ext e2).set p2)
      · exact hw.elim
    · cases h
  | .ex e, G, an, W, c, X, st, g, hp, h => by
    unfold chkS at h; split at h
    · obtain ⟨h1, h2⟩ := and_split h
      refine PS.imp (ps_expr (sndE e g h1).1 (swaps_no (not_of_not h2))) ?_
      rintro Dn σ H ⟨P, ρ, M, R, hE, hR, hw, k⟩
      exact ⟨P, ρ, M, _, hE, hR, hw, fun d M1 h1 v1 H1 e1 r1 p1 => k.1 _ _ h1 _ _ e1 r1 (hE.ext e1)⟩
    · cases h
  | .ret e, G, an, W, c, X, st, g, hp, h => by
    unfold chkS at h; split at h
    · refine PS.imp (ps_ret (sndE e g h).1) ?_
      rintro Dn σ H ⟨P, ρ, M, R, hE, hR, hw, k⟩
      exact ⟨P, ρ, M, _, hE, hR, hw, fun d M1 h1 v1 H1 e1 r1 p1 => k.2.1 _ _ h1 _ _ e1 r1 p1⟩
    · cases h
  | .retN, G, an, W, c, X, st, g, hp, h => by
    unfold chkS at h; split at h
    · refine PS.imp ps_retN ?_
      rintro Dn σ H ⟨P, ρ, M, R, hE, hR, hw, k⟩
      exact k.2.1 _ _ hw _ _ .refl hR .non
    · cases h
  | .ifs t a b, G, an, W, c, X, st, g, hp, h => by
    unfold chkS at h; split at h
    · obtain ⟨h, h4⟩ := and_split h
      obtain ⟨h, h3⟩ := and_split h
      obtain ⟨h1, h2⟩ := and_split h
      refine PS.imp (ps_if ((sndE t g h2).2 h1) (sndSs a g hp h3) (sndSs b g hp h4)) ?_
      rintro Dn σ H ⟨P, ρ, M, R, hE, hR, hw, k⟩
      refine ⟨P, ρ, M, _, hE, hR, hw, fun z M1 h1 H1 e1 r1 => ?_⟩
      have k1 := KS.later (X := X) (an := an) k e1
      cases z with
      | true => exact ⟨P, ρ, M1, R, hE.ext e1, r1, h1, k1⟩
      | false => exact ⟨P, ρ, M1, R, hE.ext e1, r1, h1, k1⟩
    · cases h
  | .for tg it b, G, an, W, c, X, st, g, hp, h => by
    unfold chkS at h; split at h
    · obtain ⟨h, hh⟩ := and_split h
      have hh := not_of_not hh
      obtain ⟨h, h4⟩ := and_split h
      obtain ⟨h, h3⟩ := and_split h
      obtain ⟨h1, h2⟩ := and_split h
      refine PS.imp (ps_for (hp hh) (g.calm hh) (sndI it g h2) (sndT tg g h1) (sndSs b g hp h3) (fun _ => folded_of h4)) ?_
      rintro Dn σ H ⟨P, ρ, M, R, hE, hR, hw, k⟩
      refine ⟨P, ρ, M, _, hE, hR, hw, fun xs gd M1 h1 J H1 e1 r1 hz hJ => ?_⟩
      have k1 := KS.later (X := X) (an := an) k e1
      exact for_fold (hE.ext e1) r1 hJ h1 k1.1 k1.2.1
    · cases h
  | .while t b, G, an, W, c, X, st, g, hp, h => by
    unfold chkS at h; split at h
    · obtain ⟨h, hh⟩ := and_split h
      have hh := not_of_not hh
      obtain ⟨h, h3⟩ := and_split h
      obtain ⟨h1, h2⟩ := and_split h
      refine PS.imp (ps_while (hp hh) ((sndE t g h2).2 h1) (sndSs b g hp h3)) ?_
      rintro Dn σ H ⟨P, ρ, M, R, hE, hR, hw, k⟩
      obtain ⟨I, ⟨m0, i0⟩, turn⟩ := hw
      refine ⟨fun m σ1 H1 => ∃ ρ1 M1, RepE (wd X an P) H1 M1 ρ1 σ1 ∧ RelH (wd X an P) H1 M1 ∧ Ext H M H1 M1 ∧ I m ρ1 M1, ⟨m0, ρ, M, hE, hR, .refl, i0⟩, ?_⟩
      rintro m σ1 H1 ⟨ρ1, M1, hE1, hR1, e1, i1⟩
      refine ⟨P, ρ1, M1, _, hE1, hR1, turn m ρ1 M1 i1, fun z M2 h2 H2 e2 r2 => ?_⟩
      have e12 := e1.trans e2
      cases z with
      | true =>
        show ∃ _, _
        refine ⟨fun σ' H' => ∃ m', m' < m ∧ ∃ ρ' M', RepE (wd X an P) H' M' ρ' σ' ∧ RelH (wd X an P) H' M' ∧ Ext H M H' M' ∧ I m' ρ' M', fun σ' H' q => q, P, ρ1, M2, _, hE1.ext e2, r2, h2, ?_, ?_, ?_, ?_⟩
        · rintro ρ' M' ⟨m', hm, i'⟩ σ' H' e r E
          exact ⟨m', hm, ρ', M', E, r, e12.trans e, i'⟩
        · exact fun d M' hd v H' e r p => k.2.1 _ _ hd _ _ (e12.trans e) r p
        · exact fun ρ' M' hd σ' H' e r E => k.1 _ _ hd _ _ (e12.trans e) r E
        · rintro ρ' M' ⟨m', hm, i'⟩ σ' H' e r E
          exact ⟨m', hm, ρ', M', E, r, e12.trans e, i'⟩
      | false => exact k.1 _ _ h2 _ _ e12 r2 (hE1.ext e2)
    · cases h
  | .pass, G, an, W, c, X, st, g, hp, h => by
    unfold chkS at h; split at h
    · refine PS.imp ps_pass ?_
      rintro Dn σ H ⟨P, ρ, M, R, hE, hR, hw, k⟩
      exact k.1 _ _ hw _ _ .refl hR hE
    · cases h
  | .brk, G, an, W, c, X, st, g, hp, h => by
    unfold chkS at h; split at h
    · refine PS.imp ps_break ?_
      rintro Dn σ H ⟨P, ρ, M, R, hE, hR, hw, k⟩
      exact k.2.2.1 _ _ hw _ _ .refl hR hE
    · cases h
  | .cont, G, an, W, c, X, st, g, hp, h => by
    unfold chkS at h; split at h
    · refine PS.imp ps_continue ?_
      rintro Dn σ H ⟨P, ρ, M, R, hE, hR, hw, k⟩
      exact k.2.2.2 _ _ hw _ _ .refl hR hE
    · cases h
  | .raise k0 es, G, an, W, c, X, st, g, hp, h => by
    unfold chkS at h; split at h
    · rename_i x p es' p2 p3
      obtain ⟨h, hh⟩ := and_split h
      have hh := not_of_not hh
      obtain ⟨h, h3⟩ := and_split h
      obtain ⟨h1, h2⟩ := and_split h
      have e := of_decide_eq_true h2
      obtain ⟨b1, b2⟩ := gl_of g h1
      cases hc : nth G.exc k0 with
      | none =>
        refine PS.imp (t := fun _ _ _ => False) ⟨fun _ _ _ _ _ _ z => z.elim⟩ ?_
        rintro Dn σ H ⟨P, ρ, M, R, hE, hR, hw, k⟩
        unfold wpS at hw
        rw [hc] at hw
        exact hw.elim
      | some kfs =>
        obtain ⟨kk, fs⟩ := kfs
        obtain ⟨rfl, ex⟩ := g.exc _ _ _ _ e hc
        refine PS.imp (ps_raise (g.calm hh) (g.tk hh) (raise_mk ex h3 b1 b2 (sndL es g h3))) ?_
        rintro Dn σ H ⟨P, ρ, M, R, hE, hR, hw, k⟩
        unfold wpS at hw
        rw [hc] at hw
        exact ⟨P, ρ, M, _, hE, hR, hw, fun ds M1 h1 => ⟨h1.1, fun cls dd H' e r q => ⟨P, _, ρ, M1, hE.ext e, r, q, h1.2⟩⟩⟩
    · cases h
  | .fz i, G, an, W, c, X, st, g, hp, h => by cases h
  | .bad, G, an, W, c, X, st, g, hp, h => PS.imp (t := fun _ _ _ => False) ⟨fun _ _ _ _ _ _ z => z.elim⟩ fun Dn σ H ⟨P, ρ, M, R, hE, hR, hw, k⟩ => (show False from hw)
  | .augs a i op e, G, an, W, c, X, st, g, hp, h => by
    unfold chkS at h; split at h
    · obtain ⟨h, h5⟩ := and_split h
      obtain ⟨h, h4⟩ := and_split h
      obtain ⟨h, h3⟩ := and_split h
      obtain ⟨h1, h2⟩ := and_split h
      have e3 := of_decide_eq_true h3
      subst e3
      refine PS.imp (ps_augS (sndE a g h1).1 (sndE i g h2).1 (getD_ok (an := an) g.units) (sndE e g h4).1 (augD_ok (an := an) op) (setD_ok (an := an) g.units) (aug_sub h5)) ?_
      rintro Dn σ H ⟨P, ρ, M, R, hE, hR, hw, k⟩
      refine ⟨P, ρ, M, _, hE, hR, hw, fun x M1 h1 v1 H1 e1 r1 p1 => ⟨P, ρ, M1, _, hE.ext e1, r1, h1, fun y M2 h2 v2 H2 e2 r2 p2 => ?_⟩⟩
      have E2 := (hE.ext e1).ext e2
      refine ⟨P, x, y, M2, _, p1.ext e2, p2, r2, h2, fun old M3 h3 v3 H3 e3 r3 p3 => ⟨P, ρ, M3, _, E2.ext e3, r3, h3, fun v M4 h4 v4 H4 e4 r4 p4 => ?_⟩⟩
      refine ⟨P, old, v, M4, _, p3.ext e4, p4, r4, h4, fun z M5 h5 v5 H5 e5 r5 p5 => ?_⟩
      refine ⟨P, x, y, z, M5, _, (((p1.ext e2).ext e3).ext e4).ext e5, ((p2.ext e3).ext e4).ext e5, p5, r5, h5, fun M6 h6 H6 e6 r6 => ?_⟩
      exact k.1 _ _ h6 _ _ (((((e1.trans e2).trans e3).trans e4).trans e5).trans e6) r6 ((((E2.ext e3).ext e4).ext e5).ext e6)
    · cases h
  | .try b hs, G, an, W, c, X, st, g, hp, h => by
    unfold chkS at h; split at h
    · rename_i b' hs' pos
      obtain ⟨h, h5⟩ := and_split h
      obtain ⟨h, h4⟩ := and_split h
      obtain ⟨h, hh⟩ := and_split h
      have hh := not_of_not hh
      obtain ⟨h1, h2⟩ := and_split h
      obtain ⟨f1, f2⟩ := g.fr h4
      cases hs' with
      | nil => cases h5
      | cons h0 hr =>
        obtain ⟨l, hl, hw⟩ := sndH hs g hh h2
        refine PS.imp (ps_try_gen f1 f2 g.nd (g.tk hh) (tb := fun Wx Dn σ H => ∃ Wd an', (∀ cls dd σ H, liftX X an' Wd cls dd σ H → Wx cls dd σ H) ∧ liftS X an' (wpSs G Wd b) Dn σ H) (fun Wx pn xe tk po => ⟨fun pins s σ H Dn I ⟨Wd, an', imp, q⟩ => (sndSs b (g.tr hh (tk.imp imp)) (fun _ => po) h1).run pins s σ H Dn I q⟩) hl) ?_
        rintro Dn σ H ⟨P, ρ, M, R, hE, hR, hw0, k⟩
        refine ⟨fun x ρ' M' => wpH hs G W R x ρ' M', an.and (An.since P H M), ?_, P, ρ, M, R, hE.anc, hR.show' (fun _ p => p) ⟨hR.ah, rfl, .refl⟩, hw0, ?_⟩
        · rintro cls dd σ' H' ⟨P', x, ρ', M', hE', hR', hX', hx⟩
          obtain ⟨e1, e2⟩ := hR'.ah.2
          have e1 : P' = P := e1
          subst e1
          exact hw Dn R (KS.later (X := X) (an := an) k e2) cls dd σ' x ρ' (An.and_drop hR') hE'.anc hX'.anc hx
        · refine ⟨fun ρ' M' h' σ' H' e r E => k.1 _ _ h' _ _ e (An.and_drop r) E.anc, fun d M' h' v H' e r p => k.2.1 _ _ h' _ _ e (An.and_drop r) (p.show' fun _ p => p), fun ρ' M' h' σ' H' e r E => k.2.2.1 _ _ h' _ _ e (An.and_drop r) E.anc, fun ρ' M' h' σ' H' e r E => k.2.2.2 _ _ h' _ _ e (An.and_drop r) E.anc⟩
    · cases h
theorem sndH : ∀ (t : HL) {G : Gam} {an : An} {W : XW} {c : CT} {X : Cx} {hs : List ExceptHandler}, Good G an W c X → c.hot = false → chkH c t hs = true → ∃ l, ClausesOk X hs l ∧
    ∀ {P : Addr → Prop} {H : Hp} {M : Mp} (Dn : Ends) (R : EndsD), KS X an P H M R Dn → ∀ cls dd σ x ρ, RelH (wd X an P) H M → RepE (wd X an P) H M ρ σ → RepX (wd X an P) H M x cls dd → wpH t G W R x ρ M → wGen X.K (liftX X an W) Dn l cls dd σ H
  | .nil, G, an, W, c, X, hs, g, hh, h => by
    cases hs with
    | nil => exact ⟨[], .nil, fun Dn R k cls dd σ x ρ r E q h => ⟨_, x, ρ, _, E, r, q, h⟩⟩
    | cons _ _ => cases h
  | .cons kn nm b r, G, an, W, c, X, hs, g, hh, h => by
    unfold chkH at h; split at h
    · rename_i x np n b0 su p' r'
      obtain ⟨h, h5⟩ := and_split h
      obtain ⟨h, h4⟩ := and_split h
      obtain ⟨h, h3⟩ := and_split h
      obtain ⟨h, h1b⟩ := and_split h
      have hn := of_decide_eq_true h1b
      obtain ⟨h1, h2⟩ := and_split h
      have e := of_decide_eq_true h2
      subst e
      obtain ⟨b1, b2⟩ := gl_of g h1
      obtain ⟨l, hl, hw⟩ := sndH r g hh h5
      obtain ⟨cv, cn, cs⟩ := g.sub _ hn
      have nms : Names X x cv := ⟨b1, b2, by
        rcases cn with ⟨C, e1, e2⟩ | ⟨T, e1, e2, e3, e4⟩
        · rw [e1]; exact .inl e2
        · rw [e1]; exact .inr ⟨e2, e3, e4⟩⟩
      have hsu : ∀ (a : Addr) (oe : Obj) (cls : Value) (d : Option Addr) (pn : List (Addr × Obj)), Zc cls d oe → (∃ vs, oe.data = .fields vs) →
          PSs (X.suite a ((a, oe) :: pn)) (b0 :: su) (fun Dn σ H => ∃ (xd : XD) (C : Addr) (P : Addr → Prop) (an0 : An), X.mg xd.1 = some (.ref C) ∧ cls = .ref C ∧ (xd.2 = [] → d = none) ∧ liftS X (an0.and (anX X P xd d)) (wpSs { G with cur := some (a, xd) } (fun _ _ _ => False) b) Dn σ H) :=
        fun a oe cls d pn hz hf => ⟨fun pins s σ H Dn I ⟨xd, C, P, an0, m1, ec, hd, q⟩ => (sndSs b (g.suite (an0 := an0) (P := P) (pn := pn) hz hf m1 ec hd) (fun z => by cases z) h4).run pins s σ H Dn I q⟩
      have key : ∀ {P : Addr → Prop} {H : Hp} {M : Mp} (Dn : Ends) (R : EndsD), KS X an P H M R Dn → ∀ {cls : Value} {dd : Option Addr} {σ : L2.St} {xd : XD} {ρ : Env1} {a : Addr}, RelH (wd X an P) H M → RepE (wd X an P) H M ρ σ → RepX (wd X an P) H M xd cls dd →
          wpSs { G with cur := some (a, xd) } (fun _ _ _ => False) b R ρ M → ∃ (xd : XD) (C : Addr) (P : Addr → Prop) (an0 : An), X.mg xd.1 = some (.ref C) ∧ cls = .ref C ∧ (xd.2 = [] → dd = none) ∧ liftS X (an0.and (anX X P xd dd)) (wpSs { G with cur := some (a, xd) } (fun _ _ _ => False) b) Dn σ H := by
        intro P H M Dn R k cls dd σ xd ρ a rH rE q hb
        obtain ⟨C, c1, c2, c3⟩ := q
        have hd : xd.2 = [] → dd = none := fun z => by
          rcases c3 with c3 | ⟨n, _⟩
          · exact c3.2
          · exact absurd z n
        refine ⟨xd, C, P, an, c2, c1, hd, P, ρ, M, R, rE.anc, rH.show' (fun _ p => p) ⟨rH.ah, rfl, fun n => ?_⟩, hb, ?_⟩
        · rcases c3 with c3 | ⟨_, d, vs, d1, d2, d3⟩
          · exact absurd c3.1 n
          · refine ⟨d, vs, d1, d2, ?_, fun f e he => let ⟨v, v1, v2⟩ := d3 f e he; ⟨v, v1, v2.show' fun _ p => p⟩⟩
            cases em : M d with
            | none => rfl
            | some o =>
              have z := rH.ob _ _ em
              cases o with
              | lst _ => obtain ⟨_, z, _⟩ := z; rw [d2] at z; cases z
              | dic _ => obtain ⟨_, z, _⟩ := z; rw [d2] at z; cases z
              | ins _ _ => obtain ⟨_, _, _, z, _⟩ := z; rw [d2] at z; cases z
        · exact ⟨fun ρ' M' h' σ' H' e r E => k.1 _ _ h' _ _ e (An.and_drop r) E.anc, fun d M' h' v H' e r p => k.2.1 _ _ h' _ _ e (An.and_drop r) (p.show' fun _ p => p), fun ρ' M' h' σ' H' e r E => k.2.2.1 _ _ h' _ _ e (An.and_drop r) E.anc, fun ρ' M' h' σ' H' e r E => k.2.2.2 _ _ h' _ _ e (An.and_drop r) E.anc⟩
      have free : ∀ {P : Addr → Prop} {H : Hp} {M : Mp} {a : Addr}, RelH (wd X an P) H M → H a = none → M a = none := fun r h => r.free h
      cases nm with
      | none =>
        cases n with
        | some _ => cases h3
        | none =>
          refine ⟨_, .bare nms hsu hl, ?_⟩
          intro P H M Dn R k cls dd σ xd ρ rH rE q hx
          unfold wpH at hx
          split at hx
          · rename_i ks ek
            obtain ⟨C, c1, c2, c3⟩ := id q
            subst c1
            refine ⟨_, (cs _ _ ek _ c2).1, fun e a na => key Dn R k rH rE q (hx.1 (of_decide_eq_true e) a (free rH na)), fun e => hw Dn R k _ _ _ _ _ rH rE q (hx.2 (of_decide_eq_false e))⟩
          · exact hx.elim
      | some i =>
        cases n with
        | none => cases h3
        | some y =>
          obtain ⟨h6, h7⟩ := and_split h3
          have h6 := of_decide_eq_true h6
          have h7 := of_decide_eq_true h7
          refine ⟨_, .named nms (by rw [g.N]; exact h6) (by show X.env.scope.names.lookup y = _; rw [g.sc]; exact h7) hsu hl, ?_⟩
          intro P H M Dn R k cls dd σ xd ρ rH rE q hx
          unfold wpH at hx
          split at hx
          · rename_i ks ek
            obtain ⟨C, c1, c2, c3⟩ := id q
            subst c1
            refine ⟨_, (cs _ _ ek _ c2).1, fun e a na => key (endsAs i Dn) _ ?_ rH (rE.set (.ref a)) q (hx.1 (of_decide_eq_true e) a (free rH na)), fun e => hw Dn R k _ _ _ _ _ rH rE q (hx.2 (of_decide_eq_false e))⟩
            exact ⟨fun ρ' M' h' σ' H' e r E => k.1 _ _ h' _ _ e r E.unset, k.2.1, fun ρ' M' h' σ' H' e r E => k.2.2.1 _ _ h' _ _ e r E.unset, fun ρ' M' h' σ' H' e r E => k.2.2.2 _ _ h' _ _ e r E.unset⟩
          · exact hx.elim
    · cases h
theorem sndSs : ∀ (t : SL) {G : Gam} {an : An} {W : XW} {c : CT} {X : Cx} {ss : List Stmt}, Good G an W c X → (c.hot = false → PassesOwn (model X.prog X.w) X.A X.env X.xe) → chkSs c t ss = true → PSs X ss (liftS X an (wpSs G W t))
  | .nil, G, an, W, c, X, ss, g, hp, h => by
    cases ss with
    | nil =>
      refine PSs.imp pss_nil ?_
      rintro Dn σ H ⟨P, ρ, M, R, hE, hR, hw, k⟩
      exact k.1 _ _ hw _ _ .refl hR hE
    | cons _ _ => cases h
  | .cons s r, G, an, W, c, X, ss, g, hp, h => by
    cases s with
    | fz i =>
      unfold chkSs at h
      refine PSs.imp (PSs.lk (sndSs r g hp h)) ?_
      rintro Dn σ H ⟨P, ρ, M, R, hE, hR, hw, k⟩
      unfold wpSs wpSs' wpS at hw
      split at hw
      · rename_i a es
        obtain ⟨v, q1, q2⟩ := hE.2 i _ (slot_get es)
        cases q2
        have k1 := KS.later (X := X) (an := an) k (Ext.give (a := a))
        have np : ∀ o, M a = some o → ¬ P a := fun o em pp => by
          have := (hR.pv a pp).1
          rw [em] at this; cases this
        split at hw
        · rename_i ds em
          obtain ⟨vs, z1, z2⟩ := hR.ob _ _ em
          refine .inl ⟨P, _, _, R, ?_, hR.give, hw, k1⟩
          have := (hE.ext (Ext.give (a := a))).set (i := i) (.lst z1 mdel_same (np _ em) (z2.ext Ext.give))
          rw [set_same q1] at this
          exact this
        · rename_i ds em
          obtain ⟨vs, z1, z2⟩ := hR.ob _ _ em
          have nt := (hR.ob _ _ em).notup
          refine .inr ⟨a, vs, z1, fun od => ⟨P, _, _, R, ?_, hR.giveL em, hw, KS.later (X := X) (an := an) k (Ext.giveL em nt)⟩⟩
          have := (hE.ext (Ext.giveL (u := .frz od (.dK vs)) em nt)).set (i := i) (.dic L2.upd_same mdel_same (np _ em) (z2.ext (Ext.giveL (u := .frz od (.dK vs)) em nt)))
          rw [set_same q1] at this
          exact this
        · rename_i kc ds em
          obtain ⟨C, dx, vs, z1, z3, z2⟩ := hR.ob _ _ em
          refine .inl ⟨P, _, _, R, ?_, hR.give, hw, k1⟩
          have := (hE.ext (Ext.give (a := a))).set (i := i) (.ins z1 mdel_same (np _ em) z3 (z2.ext Ext.give))
          rw [set_same q1] at this
          exact this
        · exact hw.elim
      · exact hw.elim
    | _ =>
      cases ss with
      | nil => cases h
      | cons s' r' =>
        unfold chkSs at h
        obtain ⟨h1, h2⟩ := and_split h
        refine PSs.imp (pss_cons (sndS _ g hp h1) (sndSs r g hp h2)) ?_
        rintro Dn σ H ⟨P, ρ, M, R, hE, hR, hw, k⟩
        refine ⟨P, ρ, M, _, hE, hR, hw, ?_, k.2.1, k.2.2.1, k.2.2.2⟩
        exact fun ρ' M' h' σ' H' e r E => ⟨P, ρ', M', R, E, r, h', KS.later (X := X) (an := an) k e⟩
end
end
end DS

/-! DS13: a def keeps its promise -/
namespace DS
open PySem PySem.Spec PyProof.Rows L2
/-- a def's promise, at a level below lvl -/
structure FnS (P : Program) (w : World) (K : PySem.W.Frag) (mg : Str → Option Value) (base : Heap) (lvl n : Nat) (sp : SpD) (f : Addr) : Prop where
  ok : ∃ k fd ps, k ≤ lvl ∧ FnOk P w K mg base (L2.CX P w) k f fd ps (liftSp K mg n sp) ∧ Binds K fd ps []
  kp : PySem.W.keepIn K (.ref f) = true
structure ExcS (K : PySem.W.Frag) (mg : Str → Option Value) (k : Str) (C : Addr) : Prop where
  g : mg k = some (.ref C)
  x : PySem.W.excIn K C [.type "ValueError", .type "Exception", .type "BaseException", .type "object"] "ValueError.__new__" = true
  kp : PySem.W.keepIn K (.ref C) = true
  sb : PySem.W.subIn K (.ref C) (.type "BaseException") = some true
  ty : PySem.W.typeIn K (.ref C) = some (.type "type")
def ClsM (mg : Str → Option Value) (k : Str) (cv : Value) : Prop := (∃ C, cv = .ref C ∧ mg k = some (.ref C)) ∨ ∃ T, cv = .type T ∧ mg k = none ∧ bootBuiltins k = some (.type T) ∧ k ≠ "__name__"
/-- names of what stands outside -/
structure Nm where
  fn : List Str := []
  mt : List (Str × Str) := []
  cst : List Str := []
  exc : List Str := []
  hn : List Str := []
def Nm.ct (nm : Nm) (N : List Str) (sc : Scope) : CT := { N := N, sc := sc, ws := sc, fn := nm.fn, mt := nm.mt, cst := nm.cst, exc := nm.exc, hn := nm.hn }
/-- what stands outside a def, below the level lvl -/
structure Tab (P : Program) (w : World) (K : PySem.W.Frag) (mg : Str → Option Value) (base : Heap) (lvl : Nat) (G : Gam) (nm : Nm) : Prop where
  blt : ∀ x ∈ bnames, mg x = none
  cst : ∀ i x d, nth nm.cst i = some x → nth G.cst i = some d → ∃ v u, mg x = some u ∧ RelV v u ∧ ∀ an Pp H M, Rep ⟨K, mg, Pp, an⟩ H M d v
  fn : ∀ i x n sp, nth nm.fn i = some x → nth G.fn i = some (n, sp) → ∃ f, mg x = some (.ref f) ∧ FnS P w K mg base lvl n sp f
  mt : ∀ i k m k' m' n sp, nth nm.mt i = some (k', m') → nth G.mt i = some (k, m, n, sp) → k' = k ∧ m' = m ∧ ∃ C f, mg k = some (.ref C) ∧ Cls K C ∧ Meth K C m f ∧ FnS P w K mg base lvl n sp f ∧ (m = "__init__" → Mk K C f)
  fl : ∀ k f, (k, f) ∈ G.fl → ∃ C, mg k = some (.ref C) ∧ Cls K C ∧ NoAttr K C f
  exc : ∀ i k k' fs, nth nm.exc i = some k' → nth G.exc i = some (k, fs) → k' = k ∧ (fs = [] ∧ ∃ C, ExcS K mg k C)
  sub : ∀ k ∈ nm.hn, ∃ cv, ClsM mg k cv ∧ ∀ x ks, G.sub.lookup x = some ks → ∀ C, mg x = some (.ref C) → PySem.W.exmOne K (.ref C) cv = some (decide (k ∈ ks)) ∧ PySem.W.kitOne K (.ref C) cv = some (decide (k ∈ ks))
  xf : ∀ k f, (k, f) ∈ G.xf → ∃ C, mg k = some (.ref C) ∧ XfC K C ∧ PySem.W.findIn K (.ref C) f = some none
  xi : ∀ k ∈ G.xi, ∃ C, mg k = some (.ref C) ∧ ExcC K C
  cur : G.cur = none
def startD (N : List Str) (ds : List D) : Env1 := ds.map some ++ List.replicate (N.length - ds.length) none
section
variable {K : PySem.W.Frag} {mg : Str → Option Value} {P P' : Addr → Prop} {an an' : An} {H : Hp} {M : Mp}
theorem Rep.anc : ∀ {d : D} {v : V}, Rep ⟨K, mg, P, an⟩ H M d v → Rep ⟨K, mg, P, an'⟩ H M d v := Rep.show' fun _ p => p
theorem Reps.anc : ∀ {d : List D} {v : List V}, Reps ⟨K, mg, P, an⟩ H M d v → Reps ⟨K, mg, P, an'⟩ H M d v := Reps.show' fun _ p => p
theorem start_rep {N : List Str} {ds : List D} {vs : List V} (p : Reps ⟨K, mg, P, an⟩ H M ds vs) : RepE ⟨K, mg, P, an⟩ H M (startD N ds) (L2.start N vs) := by
  unfold startD L2.start
  refine ⟨by simp [p.length], fun i d h => ?_⟩
  by_cases hi : i < ds.length
  · rw [List.getElem?_append_left (by simpa using hi), List.getElem?_map] at h
    cases e : ds[i]? with
    | none => rw [e] at h; cases h
    | some d' =>
      rw [e] at h
      cases h
      obtain ⟨v, h1, h2⟩ := p.get e
      exact ⟨v, by rw [List.getElem?_append_left (by rw [List.length_map, ← p.length]; exact hi), List.getElem?_map, h1]; rfl, h2⟩
  · rw [List.getElem?_append_right (by simpa using hi), List.getElem?_replicate] at h
    split at h <;> cases h
/-- since the entry at H, M with the places P -/
def since (P : Addr → Prop) (H : Hp) (M : Mp) : An where
  ph := fun P' H' M' => P' = P ∧ Ext H M H' M'
  cl := fun _ _ _ _ _ e h => ⟨h.1, h.2.trans e⟩
end
section
variable {P : Program} {w : World} {K : PySem.W.Frag} {mg : Str → Option Value} {base : Heap}
theorem fn_ok {x qual : Str} {st : Stmt} {f : Addr} {fd : FuncData} {N ps : List Str} {n lvl : Nat} {sp : SpD} {G : Gam} {body : SL} {nm : Nm}
    (F : Fun K x qual st f fd) (S : FnScope N ps (defScope st)) (hn : ps.length = n) (T : Tab P w K mg base lvl G nm) (ck : chkSs (nm.ct N (defScope st)) body (defBody st) = true)
    (hsp : ∀ ds M R RX, ds.length = n → sp ds M R RX → wpSs G (fun x _ M => RX x M) body ⟨fun _ M => R .non M, R, fun _ _ => False, fun _ _ => False⟩ (startD N ds) M) :
    FnOk P w K mg base (L2.CX P w) (lvl + 2) f fd ps (liftSp K mg n sp) := by
  refine F.okX S (fun vs H Q E h => ?_) (fun cdv A outer s H vs Q E hr h => ?_)
  · obtain ⟨_, _, ds, _, _, _, hl, pd, _⟩ := h
    rw [← pd.length, hl, hn]
  · obtain ⟨Pp, an, ds, M, R, RX, hl, pd, rh, hs, k1, k2⟩ := h
    let an' := since Pp H M
    have rh' : RelH ⟨K, mg, Pp, an'⟩ H M := rh.show' (fun _ p => p) ⟨rfl, .refl⟩
    have back : ∀ {H' : Hp} {M' : Mp} {P' : Addr → Prop}, RelH ⟨K, mg, P', an'⟩ H' M' → P' = Pp ∧ Ext H M H' M' ∧ RelH ⟨K, mg, P', an⟩ H' M' := fun {H' M' P'} r => by
      obtain ⟨e1, e2⟩ := r.ah
      have z : an.ph Pp H' M' := an.cl _ _ _ _ _ e2 rh.ah
      have z' : an.ph P' H' M' := by rw [show P' = Pp from e1]; exact z
      exact ⟨e1, e2, r.show' (fun _ p => p) z'⟩
    let X := cxOf (L2.CX P w) P w K mg base N qual (defScope st) f cdv A outer s H E
    have fnD : ∀ {n : Nat} {sp : SpD} {f : Addr} {j : Nat}, j ≤ 1 → FnS P w K mg base lvl n sp f → FnD X n sp j f := fun {n sp f j} hj h => by
      obtain ⟨⟨k, fd, ps, hk, F, hb⟩, kp⟩ := h
      exact ⟨⟨k, fd, ps, F, hr.mono (by omega), hb⟩, kp⟩
    have good : Good G an' (fun x _ M => RX x M) (nm.ct N (defScope st)) X := by
      refine ⟨rfl, rfl, fun y hy => ⟨hy, .inl rfl⟩, S.nd, ?_, fun _ => rfl, fun _ => ⟨_, hr⟩, T.blt, T.cst, fun _ i y n sp e1 e2 => ?_, fun _ i k m k' m' n sp e1 e2 => ?_, T.fl, fun i k k' fs e1 e2 => ?_, fun _ => ?_, T.sub, T.xf, T.xi, fun a x e _ => ?_, fun _ => ⟨rfl, rfl⟩⟩
      · have := hr.un
        show (A.deeper (envOfC qual (defScope st) s.heap.objs.size f cdv)).units + 65 < cLine
        omega
      · obtain ⟨f, h1, h2⟩ := T.fn i y n sp e1 e2
        exact ⟨f, h1, fnD (by omega) h2⟩
      · obtain ⟨z1, z2, C, f, h1, h2, h3, h4, h5⟩ := T.mt i k m k' m' n sp e1 e2
        exact ⟨z1, z2, C, f, h1, h2, h3, fnD (by omega) h4, h5⟩
      · obtain ⟨z1, z2, C, h1⟩ := T.exc i k k' fs e1 e2
        exact ⟨z1, z2, C, ⟨h1.g, h1.x, h1.kp, h1.sb, h1.ty⟩⟩
      · refine (takes_of rfl rfl rfl rfl).imp fun cls dd σ H' h => ?_
        obtain ⟨P', x, ρ, M', hE, r, q, hw⟩ := h
        obtain ⟨e1, e2, r2⟩ := back r
        rw [e1] at r2 q
        obtain ⟨C, c1, c2, c3⟩ := q
        refine k2 x M' hw cls dd H' e2 r2 ⟨C, c1, c2, ?_⟩
        rcases c3 with c3 | ⟨n, d, vs, d1, d2, d3⟩
        · exact .inl c3
        · exact .inr ⟨n, d, vs, d1, d2, fun f e he => let ⟨v, v1, v2⟩ := d3 f e he; ⟨v, v1, v2.anc⟩⟩
      · rw [T.cur] at e; cases e
    refine ⟨liftS X an' (wpSs G (fun x _ M => RX x M) body), sndSs body good (fun _ => passes_of rfl) ck, ?_⟩
    refine ⟨Pp, startD N ds, M, _, start_rep pd.anc, rh', hsp ds M R RX hl hs, fun ρ' M' h σ' H' e r E' => ?_, fun d M' h v H' e r p => ?_, fun ρ' M' h => h.elim, fun ρ' M' h => h.elim⟩
    · obtain ⟨_, e2, r2⟩ := back r
      exact k1 _ _ h _ _ e r2 .non
    · obtain ⟨_, e2, r2⟩ := back r
      exact k1 _ _ h _ _ e r2 p.anc
theorem FnS.mk' {x qual : Str} {st : Stmt} {f : Addr} {fd : FuncData} {ps : List Str} {lvl k n : Nat} {sp : SpD} (F : Fun K x qual st f fd) (h : FnOk P w K mg base (L2.CX P w) k f fd ps (liftSp K mg n sp)) (hk : k ≤ lvl) (hb : Binds K fd ps []) : FnS P w K mg base lvl n sp f :=
  ⟨⟨k, fd, ps, hk, h, hb⟩, F.kp⟩
end
end DS

/-! DS14: tables of what stands outside, the law's end -/
namespace DS
open PySem PySem.Spec PyProof.Rows L2
section
variable {P : Program} {w : World} {K : PySem.W.Frag} {mg : Str → Option Value} {base : Heap}
theorem FnS.mono {l l' n : Nat} {sp : SpD} {f : Addr} (h : FnS P w K mg base l n sp f) (hl : l ≤ l') : FnS P w K mg base l' n sp f := by
  obtain ⟨⟨k, fd, ps, hk, F, hb⟩, kp⟩ := h
  exact ⟨⟨k, fd, ps, Nat.le_trans hk hl, F, hb⟩, kp⟩
variable {lvl : Nat} {G : Gam} {nm : Nm}
theorem Tab.nil (h : ∀ x ∈ bnames, mg x = none) : Tab P w K mg base lvl {} {} :=
  ⟨h, (fun i x d e => by cases e), (fun i x n sp e => by cases e), (fun i k m k' m' n sp e => by cases e), (fun k f e => by cases e), (fun i k k' fs e => by cases e), (fun k e => by cases e), (fun k f e => by cases e), (fun k e => by cases e), rfl⟩
theorem Tab.fnc {x : Str} {n l : Nat} {sp : SpD} {f : Addr} (T : Tab P w K mg base lvl G nm) (g : mg x = some (.ref f)) (h : FnS P w K mg base l n sp f) (hl : l ≤ lvl) : Tab P w K mg base lvl { G with fn := (n, sp) :: G.fn } { nm with fn := x :: nm.fn } := by
  refine ⟨T.blt, T.cst, fun i y m s e1 e2 => ?_, T.mt, T.fl, T.exc, T.sub, T.xf, T.xi, T.cur⟩
  cases i with
  | zero => cases e1; cases e2; exact ⟨f, g, h.mono hl⟩
  | succ i => exact T.fn i y m s e1 e2
theorem Tab.cstc {x : Str} {d : D} {v : V} {u : Value} (T : Tab P w K mg base lvl G nm) (g : mg x = some u) (r : RelV v u) (h : ∀ an Pp H M, Rep ⟨K, mg, Pp, an⟩ H M d v) : Tab P w K mg base lvl { G with cst := d :: G.cst } { nm with cst := x :: nm.cst } := by
  refine ⟨T.blt, fun i y e e1 e2 => ?_, T.fn, T.mt, T.fl, T.exc, T.sub, T.xf, T.xi, T.cur⟩
  cases i with
  | zero => cases e1; cases e2; exact ⟨v, u, g, r, h⟩
  | succ i => exact T.cst i y e e1 e2
theorem Tab.mtc {k m : Str} {n l : Nat} {sp : SpD} {C f : Addr} (T : Tab P w K mg base lvl G nm) (g : mg k = some (.ref C)) (c : Cls K C) (hm : Meth K C m f) (h : FnS P w K mg base l n sp f) (hl : l ≤ lvl) (hk : m = "__init__" → Mk K C f) :
    Tab P w K mg base lvl { G with mt := (k, m, n, sp) :: G.mt } { nm with mt := (k, m) :: nm.mt } := by
  refine ⟨T.blt, T.cst, T.fn, fun i k1 m1 k2 m2 n1 s e1 e2 => ?_, T.fl, T.exc, T.sub, T.xf, T.xi, T.cur⟩
  cases i with
  | zero => cases e1; cases e2; exact ⟨rfl, rfl, C, f, g, c, hm, h.mono hl, hk⟩
  | succ i => exact T.mt i k1 m1 k2 m2 n1 s e1 e2
theorem Tab.flc {k f : Str} {C : Addr} (T : Tab P w K mg base lvl G nm) (g : mg k = some (.ref C)) (c : Cls K C) (h : NoAttr K C f) : Tab P w K mg base lvl { G with fl := (k, f) :: G.fl } nm := by
  refine ⟨T.blt, T.cst, T.fn, T.mt, fun k1 f1 e => ?_, T.exc, T.sub, T.xf, T.xi, T.cur⟩
  rcases List.mem_cons.mp e with e | e
  · cases e; exact ⟨C, g, c, h⟩
  · exact T.fl k1 f1 e
theorem Tab.excc {k : Str} {C : Addr} (T : Tab P w K mg base lvl G nm) (h : ExcS K mg k C) : Tab P w K mg base lvl { G with exc := (k, []) :: G.exc } { nm with exc := k :: nm.exc } := by
  refine ⟨T.blt, T.cst, T.fn, T.mt, T.fl, fun i k1 k2 fs e1 e2 => ?_, T.sub, T.xf, T.xi, T.cur⟩
  cases i with
  | zero => cases e1; cases e2; exact ⟨rfl, rfl, C, h⟩
  | succ i => exact T.exc i k1 k2 fs e1 e2
/-- the classes that clauses name, over a fixed table of exceptions -/
theorem Tab.hnc {hn : List Str} {sub : List (Str × List Str)} (T : Tab P w K mg base lvl G nm) (h : ∀ k ∈ hn, ∃ cv, ClsM mg k cv ∧ ∀ x ks, sub.lookup x = some ks → ∀ C, mg x = some (.ref C) → PySem.W.exmOne K (.ref C) cv = some (decide (k ∈ ks)) ∧ PySem.W.kitOne K (.ref C) cv = some (decide (k ∈ ks))) :
    Tab P w K mg base lvl { G with sub := sub } { nm with hn := hn } := ⟨T.blt, T.cst, T.fn, T.mt, T.fl, T.exc, h, T.xf, T.xi, T.cur⟩
theorem Tab.xfc {xf : List (Str × Str)} (T : Tab P w K mg base lvl G nm) (h : ∀ k f, (k, f) ∈ xf → ∃ C, mg k = some (.ref C) ∧ XfC K C ∧ PySem.W.findIn K (.ref C) f = some none) : Tab P w K mg base lvl { G with xf := xf } nm := ⟨T.blt, T.cst, T.fn, T.mt, T.fl, T.exc, T.sub, h, T.xi, T.cur⟩
theorem Tab.xic {xi : List Str} (T : Tab P w K mg base lvl G nm) (h : ∀ k ∈ xi, ∃ C, mg k = some (.ref C) ∧ ExcC K C) : Tab P w K mg base lvl { G with xi := xi } nm := ⟨T.blt, T.cst, T.fn, T.mt, T.fl, T.exc, T.sub, T.xf, h, T.cur⟩
theorem fun_of {x qual : Str} {st : Stmt} {f : Addr} {fd : FuncData} {kws : List (Str × V)} (F : FunD K x qual (defArgs st) (defBody st) (defScope st) [] kws f fd) : Fun K x qual st f fd := by
  obtain ⟨oc, od, dV, kV, doc, pm, an, cdv, ct, osl, e, l, c, hd, _⟩ := F.ex
  rcases hd with ⟨_, e2⟩ | ⟨e2, _⟩
  · subst e2
    exact ⟨⟨oc, od, kV, doc, pm, an, cdv, ct, osl, e, l, c⟩, F.kp⟩
  · exact absurd rfl e2
/-- a def of the text, without defaults -/
abbrev dS (at_ : Str × Option Str) (x qual : Str) (st : Stmt) : He.DefD := ⟨at_, x, qual, defArgs st, defBody st, defScope st, [], []⟩
abbrev FnP (K : PySem.W.Frag) (at_ : Str × Option Str) (x qual : Str) (st : Stmt) : Prop := ∃ fd, FunD K x qual (defArgs st) (defBody st) (defScope st) [] [] (He.fAd K at_) fd
abbrev BindOk (x qual : Str) (st : Stmt) (ps : List Str) : Prop := ∀ (kV doc pm : Value) (an : Option Addr) (cdv ct : Value) (us : List Value), us.length = ps.length → bindArgs (PySem.W.fnOf x qual (defArgs st) (defBody st) (defScope st) .none kV doc pm an cdv ct) ⟨us, []⟩ = pure (ps.zip us)
theorem fnS_ok {at_ : Str × Option Str} {x qual : Str} {st : Stmt} {N ps : List Str} {n : Nat} {sp : SpD} {G : Gam} {nm : Nm} {body : SL}
    (F : FnP K at_ x qual st) (hb : BindOk x qual st ps) (S : FnScope N ps (defScope st)) (hn : ps.length = n) (T : Tab P w K mg base lvl G nm) (ck : chkSs (nm.ct N (defScope st)) body (defBody st) = true)
    (hsp : ∀ ds M R RX, ds.length = n → sp ds M R RX → wpSs G (fun x _ M => RX x M) body ⟨fun _ M => R .non M, R, fun _ _ => False, fun _ _ => False⟩ (startD N ds) M) : FnS P w K mg base (lvl + 2) n sp (He.fAd K at_) := by
  obtain ⟨fd, F⟩ := F
  exact FnS.mk' (fun_of F) (fn_ok (fun_of F) S hn T ck hsp) (Nat.le_refl _) ((fun_of F).binds hb)
theorem FnS.void {at_ : Str × Option Str} {x qual : Str} {st : Stmt} {ps : List Str} {n l : Nat} {sp : SpD} (F : FnP K at_ x qual st) (hb : BindOk x qual st ps) (h : ∀ ds M R RX, ¬ sp ds M R RX) : FnS P w K mg base l n sp (He.fAd K at_) := by
  obtain ⟨fd, F⟩ := F
  refine FnS.mk' (k := 0) (ps := ps) (fun_of F) ⟨fun vs H Q E z => ?_, fun A outer s H args us vs Q E _ _ _ _ z => ?_⟩ (Nat.zero_le _) ((fun_of F).binds hb)
  · obtain ⟨_, _, ds, M, R, RX, _, _, _, z, _⟩ := z; exact (h _ _ _ _ z).elim
  · obtain ⟨_, _, ds, M, R, RX, _, _, _, z, _⟩ := z; exact (h _ _ _ _ z).elim
/-- a def that calls itself -/
theorem FnS.rec' {sp : Nat → SpD} {n l : Nat} {f : Addr} (h0 : FnS P w K mg base l n (sp 0) f) (step : ∀ d, FnS P w K mg base (l + 2 * d) n (sp d) f → FnS P w K mg base (l + 2 * d + 2) n (sp (d + 1)) f) : ∀ d, FnS P w K mg base (l + 2 * d) n (sp d) f
  | 0 => h0
  | d + 1 => step d (FnS.rec' h0 step d)
theorem says_mem {fa : List He.Fa} {fn : List He.DefD} (c : He.SaysD fa fn K) {f : He.Fa} (h : f ∈ fa) : f.ok K = true := by
  have c1 := (He.ba (show ((fa.all fun f => f.ok K) && fn.all fun d => d.ok K) = true from congrArg (fun z : He.AlD => z.1) c)).1
  exact List.all_eq_true.mp c1 f h
theorem blt_of {fa : List He.Fa} {fn : List He.DefD} {h : Heap} (X : K.In h) (G : h.Ns mainGlobals mg) (c : He.SaysD (bnames.map He.Fa.free ++ fa) fn K) : ∀ x ∈ bnames, mg x = none :=
  fun _ hx => He.free_ok X G (says_mem c (List.mem_append_left _ (List.mem_map.mpr ⟨_, hx, rfl⟩)))
/-- the law's promise -/
def spLaw (n : Nat) : SpD := fun ds M R RX => ∃ ns : List Int, ds = [.frl (ns.map D.int)] ∧ ns.length ≤ n ∧ M = (fun _ => none) ∧ ∀ M', R (.bl true) M'
theorem reps_ints {F : Wd} {H : Hp} {M : Mp} : ∀ ns : List Int, Reps F H M (ns.map D.int) (ns.map V.int)
  | [] => .nil
  | n :: r => .cons (.int n) (reps_ints r)
theorem law_sp {n : Nat} {H : Hp} {a : Addr} {ns : List Int} (hl : ns.length ≤ n) (hS : SqL K H a (ns.map V.int)) : liftSp K mg 1 (spLaw n) [.ref a] H (fun v _ => v = .bl true) fun _ _ _ => False := by
  refine ⟨fun _ => False, .top, [.frl (ns.map D.int)], fun _ => none, fun d _ => d = .bl true, fun _ _ => False, rfl, .cons ?_ .nil, ⟨(fun a o e => by cases e), (fun a (h : False) => h.elim), trivial⟩, ⟨ns, rfl, hl, rfl, fun _ => rfl⟩, fun d M' e v H' _ _ p => ?_, fun x M' e => e.elim⟩
  · rcases hS with h | h
    · exact .frl h rfl (fun e => e) (reps_ints ns)
    · exact .lstK h (reps_ints ns)
  · subst e; cases p; rfl
theorem walk_w {l : PySem.W.OpenLaw} {n k : Nat} {q : Program} {loose : List Str} {XP : (Str → Option Value) → Heap → Prop} {YP : World → Heap → Prop} {d : DefRec} {CX : World → CXT} {x : Str}
    (hn : l.most = some n) (hn2 : n ≤ sizeLine) (hdf : d.params.defaults = []) (hr : Room k callerA)
    (F : ∀ (w : World) (mg : Str → Option Value) (fa : Addr) (h : Heap), YP w h → h.Ns mainGlobals mg → mg d.name = some (.ref fa) →
      ∃ (K : PySem.W.Frag) (fd : FuncData) (sp : Sp), K.In h ∧ (∀ (s : Shared) (u : Value), BindsTo s fd ⟨[u], []⟩ [(x, u)]) ∧
        (∀ (H : Hp) (a : Addr) (ns : List Int), ns.length ≤ n → Only H → SqL K H a (ns.map V.int) → sp [.ref a] H (fun v _ => v = .bl true) fun _ _ _ => False) ∧
        ∀ base : Heap, K.In base → base.Ns mainGlobals mg → FnOk l.prog w K mg base (CX w) k fa fd [x] sp)
    (hCX : ∀ (w : World) (H : Hp) (s : Shared) (e : Value) (s' : Shared), CX w [] H s (fun _ _ _ => False) e s' → False) :
    PySem.W.WalkO q loose XP YP l.row.toRowW d [] (fun f vs => PySem.call f vs) := by
  refine Att.attach_call hn hdf fun w s₀ s₁ mg mb fa o pm cd doc a vs ns G Y ho hd hcd hmg hobj hints hlen hg => ?_
  obtain ⟨K, fd, sp, KX, hb, hsp, hF⟩ := F w mg fa _ Y G.T.g hmg
  exact law_call KX G.T.g G.T.b G.T.builtins G.T.nolimit hg hobj hints (Nat.le_trans hlen hn2) hr hF hb (fun H hO hS => hsp H a ns hlen hO hS) fun H e s' => hCX w H s₁ e s'
theorem law_end {l : PySem.W.OpenLaw} {n : Nat} {q : Program} {loose : List Str} {XP : (Str → Option Value) → Heap → Prop} {fa : List He.Fa} {fn : List He.DefD} {hn : Nat} {d : DefRec} {x : Str} {st : Stmt} {k : Nat}
    (h1 : l.most = some n) (h2 : n ≤ sizeLine) (hdf : d.params.defaults = []) (hr : Room k callerA) (hd : d.name = ("law" : Str)) (hb : BindOk "law" "law" st [x])
    (F : ∀ (w : World) (K : PySem.W.Frag) (h : Heap) (mg : Str → Option Value), K.In h → h.Ns mainGlobals mg → He.SaysD fa fn K → mg ("law" : Str) = some (.ref (He.ga K "law")) ∧ ∃ fd, Fun K "law" "law" st (He.ga K "law") fd ∧ ∀ base : Heap, FnOk l.prog w K mg base (L2.CX l.prog w) k (He.ga K "law") fd [x] (liftSp K mg 1 (spLaw n))) :
    PySem.W.WalkO q loose XP (He.hookD hn fa fn).says l.row.toRowW d [] (fun f vs => PySem.call f vs) := by
  refine walk_w (x := x) (CX := fun w => L2.CX l.prog w) h1 h2 hdf hr (fun w mg fa' h Y G hmg => ?_) (fun w H s e s' z => ?_)
  · obtain ⟨K, KX, c⟩ := Y
    rw [hd] at hmg
    obtain ⟨e0, fd, F1, F2⟩ := F w K h mg KX G c
    have e := hmg.symm.trans e0
    cases e
    refine ⟨K, fd, _, KX, fun s v => ?_, fun H a ns hl _ hS => law_sp hl hS, fun base _ _ => F2 base⟩
    obtain ⟨oc, od, kV, doc, pm, an, cdv, ct, osl, rfl, lk, hcd⟩ := F1.ex
    exact .of_eq (hb kV doc pm an cdv ct [v] rfl)
  · obtain ⟨a, B, H', cls, d, _, _, _, _, _, _, _, hE⟩ := z
    exact hE
end
end DS

/-! DS15: words for the plain proofs -/
namespace DS
open PySem PySem.Spec PyProof.Rows L2
/-- a comprehension that changes nothing -/
theorem foldC_fm {bind : D → Env1 → Mp → (Env1 → Mp → Prop) → Prop} {cond : Env1 → Mp → (Bool → Mp → Prop) → Prop} {elt : Env1 → Mp → QE → Prop} {ρ : Env1} {g : Mp → Prop} {M : Mp} (f : D → Option D) (hg : g M) {Q : List D → Mp → Prop} :
    ∀ {xs acc : List D} (h : ∀ x ∈ xs, ∀ (K1 : D → Mp → Prop) (K2 : Mp → Prop), (match f x with | some d => K1 d M | none => K2 M) → bind x ρ M fun ρ1 M1 => cond ρ1 M1 fun b M2 => match b with | true => elt ρ1 M2 K1 | false => K2 M2),
      Q (acc ++ xs.filterMap f) M → foldC bind cond elt ρ g xs acc M Q
  | [], acc, h, q => ⟨hg, by simpa using q⟩
  | x :: xs, acc, h, q => by
    refine ⟨hg, h x (List.mem_cons_self ..) (fun d M3 => foldC bind cond elt ρ g xs (acc ++ [d]) M3 Q) (fun M2 => foldC bind cond elt ρ g xs acc M2 Q) ?_⟩
    rw [List.filterMap_cons] at q
    cases e : f x with
    | none => rw [e] at q; exact foldC_fm f hg (fun y hy => h y (List.mem_cons_of_mem _ hy)) q
    | some d => rw [e] at q; exact foldC_fm f hg (fun y hy => h y (List.mem_cons_of_mem _ hy)) (by simpa using q)
/-- .. each item gives one -/
theorem foldC_map {bind : D → Env1 → Mp → (Env1 → Mp → Prop) → Prop} {cond : Env1 → Mp → (Bool → Mp → Prop) → Prop} {elt : Env1 → Mp → QE → Prop} {ρ : Env1} {g : Mp → Prop} {M : Mp} (f : D → D) (hg : g M) {Q : List D → Mp → Prop} {xs acc : List D}
    (h : ∀ x ∈ xs, ∀ (K1 : D → Mp → Prop) (K2 : Mp → Prop), K1 (f x) M → bind x ρ M fun ρ1 M1 => cond ρ1 M1 fun b M2 => match b with | true => elt ρ1 M2 K1 | false => K2 M2)
    (q : Q (acc ++ xs.map f) M) : foldC bind cond elt ρ g xs acc M Q :=
  foldC_fm (fun x => some (f x)) hg (fun x hx K1 K2 k => h x hx K1 K2 k) (by rw [show (fun x => some (f x)) = some ∘ f from rfl, List.filterMap_eq_map]; exact q)
theorem foldC_inv {bind : D → Env1 → Mp → (Env1 → Mp → Prop) → Prop} {cond : Env1 → Mp → (Bool → Mp → Prop) → Prop} {elt : Env1 → Mp → QE → Prop} {ρ : Env1} {g : Mp → Prop} {Q : List D → Mp → Prop} :
    ∀ {xs acc : List D} {M : Mp} (I : Nat → List D → Mp → Prop), I 0 acc M → (∀ i acc M, I i acc M → g M) →
      (∀ i x acc M, xs[i]? = some x → I i acc M → ∀ (K1 : D → Mp → Prop) (K2 : Mp → Prop), (∀ d M3, I (i + 1) (acc ++ [d]) M3 → K1 d M3) → (∀ M2, I (i + 1) acc M2 → K2 M2) →
        bind x ρ M fun ρ1 M1 => cond ρ1 M1 fun b M2 => match b with | true => elt ρ1 M2 K1 | false => K2 M2) →
      (∀ acc M, I xs.length acc M → Q acc M) → foldC bind cond elt ρ g xs acc M Q
  | [], acc, M, I, h0, hg, _, q => ⟨hg _ _ _ h0, q _ _ h0⟩
  | x :: xs, acc, M, I, h0, hg, st, q =>
    have go : ∀ acc' M', I 1 acc' M' → foldC bind cond elt ρ g xs acc' M' Q := fun acc' M' h1 =>
      foldC_inv (fun i => I (i + 1)) h1 (fun i => hg (i + 1)) (fun i y a M e => st (i + 1) y a M (by simpa using e)) q
    ⟨hg _ _ _ h0, st 0 x acc M rfl h0 _ _ (fun d M3 h => go _ _ h) fun M2 h => go _ _ h⟩
theorem foldS_inv {bind : D → Env1 → Mp → (Env1 → Mp → Prop) → Prop} {body : EndsD → Env1 → Mp → Prop} {g : Mp → Prop} {R : EndsD} :
    ∀ {xs : List D} {ρ : Env1} {M : Mp} (I : Nat → Env1 → Mp → Prop), I 0 ρ M → (∀ i ρ M, I i ρ M → g M) →
      (∀ i x ρ M, xs[i]? = some x → I i ρ M → ∀ K : Env1 → Mp → Prop, (∀ ρ' M', I (i + 1) ρ' M' → K ρ' M') → bind x ρ M fun ρ1 M1 => body { R with nx := K, ct := K, bk := R.nx } ρ1 M1) →
      (∀ ρ M, I xs.length ρ M → R.nx ρ M) → foldS bind body g xs R ρ M
  | [], ρ, M, I, h0, hg, _, q => ⟨hg _ _ _ h0, q _ _ h0⟩
  | x :: xs, ρ, M, I, h0, hg, st, q =>
    ⟨hg _ _ _ h0, st 0 x ρ M rfl h0 (foldS bind body g xs R) fun ρ' M' h1 =>
      foldS_inv (fun i => I (i + 1)) h1 (fun i => hg (i + 1)) (fun i y a M e => st (i + 1) y a M (by simpa using e)) q⟩
section
variable {α : Type} {bind : D → Env1 → Mp → (Env1 → Mp → Prop) → Prop} {cond : Env1 → Mp → (Bool → Mp → Prop) → Prop} {elt : Env1 → Mp → QE → Prop} {ρ : Env1} {g : Mp → Prop} {M : Mp}
/-- items of one kind, a test and a value -/
theorem foldC_if (l : List α) (e f : α → D) (p : α → Bool) (hg : g M) {Q : List D → Mp → Prop} {acc : List D}
    (h : ∀ x ∈ l, ∀ (K1 : D → Mp → Prop) (K2 : Mp → Prop), (p x = true → K1 (f x) M) → (p x = false → K2 M) → bind (e x) ρ M fun ρ1 M1 => cond ρ1 M1 fun b M2 => match b with | true => elt ρ1 M2 K1 | false => K2 M2)
    (q : Q (acc ++ (l.filter p).map f) M) : foldC bind cond elt ρ g (l.map e) acc M Q := by
  induction l generalizing acc with
  | nil => exact ⟨hg, by simpa using q⟩
  | cons x l ih =>
    refine ⟨hg, h x (List.mem_cons_self ..) (fun d M3 => foldC bind cond elt ρ g (l.map e) (acc ++ [d]) M3 Q) (fun M2 => foldC bind cond elt ρ g (l.map e) acc M2 Q) (fun hp => ?_) fun hp => ?_⟩
    · refine ih (fun y hy => h y (List.mem_cons_of_mem _ hy)) ?_
      rw [List.filter_cons_of_pos hp] at q; simpa using q
    · refine ih (fun y hy => h y (List.mem_cons_of_mem _ hy)) ?_
      rw [List.filter_cons_of_neg (by rw [hp]; simp)] at q; exact q
theorem foldC_all (l : List α) (e f : α → D) (hg : g M) {Q : List D → Mp → Prop} {acc : List D}
    (h : ∀ x ∈ l, ∀ (K1 : D → Mp → Prop) (K2 : Mp → Prop), K1 (f x) M → bind (e x) ρ M fun ρ1 M1 => cond ρ1 M1 fun b M2 => match b with | true => elt ρ1 M2 K1 | false => K2 M2)
    (q : Q (acc ++ l.map f) M) : foldC bind cond elt ρ g (l.map e) acc M Q :=
  foldC_if l e f (fun _ => true) hg (fun x hx K1 K2 k _ => h x hx K1 K2 (k rfl)) (by rw [List.filter_eq_self.mpr (fun _ _ => rfl)]; exact q)
end
theorem rgD01 (n : Nat) : rgD 0 1 n = (List.range n).map fun (i : Nat) => D.int (i : Int) := by
  unfold rgD
  exact List.map_congr_left fun i _ => by rw [Int.zero_add, Int.mul_one]
theorem rgDc (c : Int) (n : Nat) : rgD c 1 n = (List.range n).map fun (i : Nat) => D.int (c + (i : Int)) := by
  unfold rgD
  exact List.map_congr_left fun i _ => by rw [Int.mul_one]
theorem getElem?_map_some {α : Type} {l : List α} {e : α → D} {i : Nat} {x : D} (h : (l.map e)[i]? = some x) : ∃ y, l[i]? = some y ∧ x = e y := by
  rw [List.getElem?_map] at h
  cases q : l[i]? with
  | none => rw [q] at h; cases h
  | some y => rw [q] at h; cases h; exact ⟨y, rfl, rfl⟩
theorem intsOf_map : ∀ ns : List Int, intsOf (ns.map D.int) = some ns
  | [] => rfl
  | n :: r => by rw [List.map_cons, intsOf, intsOf_map r]; rfl
theorem blsOf_map : ∀ ns : List Bool, blsOf (ns.map D.bl) = some ns
  | [] => rfl
  | n :: r => by rw [List.map_cons, blsOf, blsOf_map r]; rfl
theorem zipD_map {α β : Type} (f : α → D) (g : β → D) : ∀ (xs : List α) (ys : List β), zipD (xs.map f) (ys.map g) = (xs.zip ys).map fun p => .tup [f p.1, g p.2]
  | [], _ => by simp [zipD]
  | _ :: _, [] => by simp [zipD]
  | x :: xs, y :: ys => by simp [zipD, zipD_map f g xs ys]

/-! ### values of a Lean type -/
class En (α : Type) where
  d : α → D
  py : α → PyData
  f : ∀ a, pyF (d a) = some (py a)
  lay : ∀ a, (py a).canLay0 = true
  eq : ∀ a b, PyData.eqv (py a) (py b) = true ↔ a = b
  dep : Nat
  dep_le : ∀ a, (py a).depth ≤ dep
/-- .. none of which is None -/
class EnN (α : Type) [En α] where
  nn : ∀ a : α, PyData.eqv (En.py a) .none = false ∧ PyData.eqv .none (En.py a) = false
instance : En Int := ⟨.int, .int, fun _ => by rw [pyF], fun _ => by rw [PyData.canLay0], fun a b => by simp only [PyData.eqv, beq_iff_eq], 0, fun _ => by rw [PyData.depth]; exact Nat.le_refl _⟩
instance : EnN Int := ⟨fun a => ⟨by show PyData.eqv (.int _) _ = _; simp only [PyData.eqv], by show PyData.eqv _ (.int _) = _; simp only [PyData.eqv]⟩⟩
instance : En Bool := ⟨.bl, .bool, fun _ => by rw [pyF], fun _ => by rw [PyData.canLay0], fun a b => by simp only [PyData.eqv, beq_iff_eq], 0, fun _ => by rw [PyData.depth]; exact Nat.le_refl _⟩
instance : EnN Bool := ⟨fun a => ⟨by show PyData.eqv (.bool _) _ = _; simp only [PyData.eqv], by show PyData.eqv _ (.bool _) = _; simp only [PyData.eqv]⟩⟩
/-- a text that == reads -/
abbrev St := {x : Str // PyData.strOk x = true}
instance : En St := ⟨fun x => .str x.1, fun x => .str x.1, fun _ => by rw [pyF], fun x => by rw [PyData.canLay0]; exact x.2, fun a b => by simp only [PyData.eqv, beq_iff_eq]; exact Subtype.ext_iff.symm, 0, fun _ => by rw [PyData.depth]; exact Nat.le_refl _⟩
instance : EnN St := ⟨fun a => ⟨by show PyData.eqv (.str _) _ = _; simp only [PyData.eqv], by show PyData.eqv _ (.str _) = _; simp only [PyData.eqv]⟩⟩
section
variable {α β : Type} [En α] [En β]
def optD : Option α → D
  | none => .non
  | some a => En.d a
def optPy : Option α → PyData
  | none => .none
  | some a => En.py a
instance [EnN α] : En (Option α) := ⟨optD, optPy, fun a => by cases a with | none => rw [optD, pyF, optPy] | some a => exact En.f a,
  fun a => by cases a with | none => rw [optPy, PyData.canLay0] | some a => exact En.lay a,
  fun a b => by
    cases a with
    | none => cases b with
      | none => simp only [optPy, PyData.eqv]
      | some b => simp only [optPy, (EnN.nn b).2]; simp
    | some a => cases b with
      | none => simp only [optPy, (EnN.nn a).1]; simp
      | some b => simp only [optPy, En.eq, Option.some.injEq], En.dep α, fun a => by cases a with | none => rw [optPy, PyData.depth]; exact Nat.zero_le _ | some a => exact En.dep_le a⟩
theorem pyFs_map : ∀ l : List α, pyFs (l.map En.d) = some (l.map En.py)
  | [] => by rw [List.map_nil, pyFs]; rfl
  | x :: l => by rw [List.map_cons, pyFs, En.f x, pyFs_map l]; rfl
theorem lay_map : ∀ l : List α, PyData.canLayAll0 (l.map En.py) = true
  | [] => by rw [List.map_nil, PyData.canLayAll0]
  | x :: l => by rw [List.map_cons, PyData.canLayAll0, En.lay x, lay_map l]; rfl
theorem eq_map : ∀ l m : List α, PyData.eqvAll (l.map En.py) (m.map En.py) = true ↔ l = m
  | [], [] => by simp [PyData.eqvAll]
  | [], _ :: _ => by simp [PyData.eqvAll]
  | _ :: _, [] => by simp [PyData.eqvAll]
  | x :: l, y :: m => by
    rw [List.map_cons, List.map_cons, PyData.eqvAll, Bool.and_eq_true_iff, En.eq, eq_map l m, List.cons.injEq]
theorem dep_map : ∀ l : List α, PyData.depthAll (l.map En.py) ≤ En.dep α
  | [] => by rw [List.map_nil, PyData.depthAll]; exact Nat.zero_le _
  | x :: l => by rw [List.map_cons, PyData.depthAll]; exact Nat.max_le.mpr ⟨En.dep_le x, dep_map l⟩
/-- a tuple of any length -/
instance : En (List α) := ⟨fun l => .tup (l.map En.d), fun l => .tuple (l.map En.py), fun l => by rw [pyF, pyFs_map l]; rfl, fun l => by rw [PyData.canLay0]; exact lay_map l,
  fun l m => by rw [PyData.eqv]; exact eq_map l m, En.dep α + 1, fun l => by rw [PyData.depth]; exact Nat.succ_le_succ (dep_map l)⟩
instance : EnN (List α) := ⟨fun a => ⟨by show PyData.eqv (.tuple _) _ = _; simp only [PyData.eqv], by show PyData.eqv _ (.tuple _) = _; simp only [PyData.eqv]⟩⟩
/-- a list -/
structure Ls (α : Type) where
  l : List α
  deriving DecidableEq
instance : En (Ls α) := ⟨fun l => .lst (l.l.map En.d), fun l => .list (l.l.map En.py), fun l => by rw [pyF, pyFs_map l.l]; rfl, fun l => by rw [PyData.canLay0]; exact lay_map l.l,
  fun l m => by rw [PyData.eqv]; cases l; cases m; rw [eq_map]; simp, En.dep α + 1, fun l => by rw [PyData.depth]; exact Nat.succ_le_succ (dep_map l.l)⟩
instance : EnN (Ls α) := ⟨fun a => ⟨by show PyData.eqv (.list _) _ = _; simp only [PyData.eqv], by show PyData.eqv _ (.list _) = _; simp only [PyData.eqv]⟩⟩
instance : En (α × β) := ⟨fun p => .tup [En.d p.1, En.d p.2], fun p => .tuple [En.py p.1, En.py p.2], fun p => by rw [pyF, pyFs, pyFs, pyFs, En.f, En.f]; rfl,
  fun p => by rw [PyData.canLay0, PyData.canLayAll0, PyData.canLayAll0, PyData.canLayAll0, En.lay, En.lay]; rfl,
  fun p q => by rw [PyData.eqv, PyData.eqvAll, PyData.eqvAll, PyData.eqvAll, Bool.and_true, Bool.and_eq_true_iff, En.eq, En.eq, Prod.ext_iff], max (En.dep α) (En.dep β) + 1,
  fun p => by
    rw [PyData.depth, PyData.depthAll, PyData.depthAll, PyData.depthAll]
    exact Nat.succ_le_succ (Nat.max_le.mpr ⟨Nat.le_trans (En.dep_le p.1) (Nat.le_max_left _ _), Nat.max_le.mpr ⟨Nat.le_trans (En.dep_le p.2) (Nat.le_max_right _ _), Nat.zero_le _⟩⟩)⟩
instance : EnN (α × β) := ⟨fun a => ⟨by show PyData.eqv (.tuple _) _ = _; simp only [PyData.eqv], by show PyData.eqv _ (.tuple _) = _; simp only [PyData.eqv]⟩⟩
theorem shaped_en (h : En.dep α ≤ 64) (a : α) : SeqAt.shaped (En.py a) = true := by
  unfold SeqAt.shaped
  rw [En.lay a, decide_eq_true (Nat.le_trans (En.dep_le a) h)]; rfl
theorem pyOf_of {M : Mp} {d : D} {p : PyData} (h : pyF d = some p) : pyOf M d = some p := by
  unfold pyOf
  split
  · rw [pyF] at h; cases h; all_goals (intros; simp_all)
  · exact h
variable [DecidableEq α] {M : Mp} {Q : QE}
theorem eqv_en (a b : α) : PyData.eqv (En.py a) (En.py b) = decide (a = b) := by
  rw [Bool.eq_iff_iff, En.eq, decide_eq_true_eq]
theorem cmp_eq {a b : α} (h : Q (.bl (decide (a = b))) M) (hd : En.dep α ≤ 64 := by decide) : cmpD .Eq (En.d a) (En.d b) M Q := by
  unfold cmpD
  rw [pyOf_of (En.f a), pyOf_of (En.f b)]
  exact ⟨shaped_en hd a, shaped_en hd b, by rw [eqv_en]; exact h⟩
theorem cmp_ne {a b : α} (h : Q (.bl (!decide (a = b))) M) (hd : En.dep α ≤ 64 := by decide) : cmpD .NotEq (En.d a) (En.d b) M Q := by
  unfold cmpD
  rw [pyOf_of (En.f a), pyOf_of (En.f b)]
  exact ⟨shaped_en hd a, shaped_en hd b, by rw [eqv_en]; exact h⟩
end
section
variable {M : Mp} {Q : QE} {i j : Int} {b c : Bool} {x y : Str} {d : D}
theorem shaped_int : SeqAt.shaped (.int i) = true := shaped_en (α := Int) (by decide) i
theorem cmp_lt : cmpD .Lt (.int i) (.int j) M Q = Q (.bl (decide (i < j))) M := rfl
theorem cmp_le : cmpD .LtE (.int i) (.int j) M Q = Q (.bl (decide (i ≤ j))) M := rfl
theorem cmp_gt : cmpD .Gt (.int i) (.int j) M Q = Q (.bl (decide (j < i))) M := rfl
theorem cmp_ge : cmpD .GtE (.int i) (.int j) M Q = Q (.bl (decide (j ≤ i))) M := rfl
theorem cmp_is : cmpD .Is d .non M Q = Q (.bl (isN d)) M := by unfold cmpD; simp [isN]
theorem cmp_isnot : cmpD .IsNot d .non M Q = Q (.bl (!isN d)) M := by unfold cmpD; simp [isN]
theorem cmp_ii : cmpD .Eq (.int i) (.int j) M Q = Q (.bl (decide (i = j))) M := propext ⟨fun h => by
  unfold cmpD at h; simp only [pyOf, pyF] at h; rw [show PyData.eqv (.int i) (.int j) = decide (i = j) from eqv_en (α := Int) i j] at h; exact h.2.2, fun h => cmp_eq (α := Int) h⟩
theorem cmp_iin : cmpD .NotEq (.int i) (.int j) M Q = Q (.bl (!decide (i = j))) M := propext ⟨fun h => by
  unfold cmpD at h; simp only [pyOf, pyF] at h; rw [show PyData.eqv (.int i) (.int j) = decide (i = j) from eqv_en (α := Int) i j] at h; exact h.2.2, fun h => cmp_ne (α := Int) h⟩
end
theorem en_int (i : Int) : En.d i = .int i := rfl
theorem en_bool (i : Bool) : En.d i = .bl i := rfl
theorem en_none {α : Type} [En α] [EnN α] : En.d (none : Option α) = .non := rfl
theorem en_some {α : Type} [En α] [EnN α] (a : α) : En.d (some a) = En.d a := rfl
theorem en_list {α : Type} [En α] (l : List α) : En.d l = .tup (l.map En.d) := rfl
theorem en_pair {α β : Type} [En α] [En β] (a : α) (b : β) : En.d (a, b) = .tup [En.d a, En.d b] := rfl
theorem isN_opt (a : Option Int) : isN (En.d a) = a.isNone := by cases a <;> rfl
theorem isN_non : isN .non = true := rfl
theorem isN_int (i : Int) : isN (.int i) = false := rfl
theorem isN_bl (i : Bool) : isN (.bl i) = false := rfl
theorem isN_str (i : Str) : isN (.str i) = false := rfl
theorem isN_tup (i : List D) : isN (.tup i) = false := rfl
theorem isN_lst (i : List D) : isN (.lst i) = false := rfl
theorem isN_ins (c : Str) (i : List (Str × D)) : isN (.ins c i) = false := rfl
theorem isN_ref (a : Addr) : isN (.ref a) = false := rfl
theorem isN_list {α : Type} [En α] (l : List α) : isN (En.d l) = false := rfl
theorem isN_enI (i : Int) : isN (En.d i) = false := rfl
theorem blsOf_mapf {α : Type} (f : α → Bool) : ∀ l : List α, blsOf (l.map fun a => D.bl (f a)) = some (l.map f)
  | [] => rfl
  | n :: r => by rw [List.map_cons, blsOf, blsOf_mapf f r]; rfl
theorem intsOf_mapf {α : Type} (f : α → Int) : ∀ l : List α, intsOf (l.map fun a => D.int (f a)) = some (l.map f)
  | [] => rfl
  | n :: r => by rw [List.map_cons, intsOf, intsOf_mapf f r]; rfl
theorem ix_any {x d : D} {ds : List D} {i : Int} {M : Mp} {Q : QE} (h : sqOf M x = some ds) (e : L2.atI ds i = some d) (q : Q d M) : ixD x (.int i) M Q := by
  unfold ixD
  cases x with
  | str z => cases h
  | _ => simp only [h, e]; exact q
theorem ix_at {x d : D} {ds : List D} {i : Nat} {M : Mp} {Q : QE} (h : sqOf M x = some ds) (e : ds[i]? = some d) (q : Q d M) : ixD x (.int (i : Int)) M Q := ix_any h (L2.atI_nat e) q
theorem ix_neg {x d : D} {ds : List D} {i : Nat} {M : Mp} {Q : QE} (h : sqOf M x = some ds) (h0 : 0 < i) (h1 : i ≤ ds.length) (e : ds[ds.length - i]? = some d) (q : Q d M) : ixD x (.int (-(i : Int))) M Q := by
  refine ix_any h ?_ q
  unfold L2.atI L2.ixN
  rw [if_neg (by omega), if_pos (by omega)]
  show ds[(-(i : Int) + ds.length).toNat]? = some d
  rw [show (-(i : Int) + ds.length).toNat = ds.length - i by omega]
  exact e
theorem ix_map {α : Type} {x : D} {l : List α} {f : α → D} {i : Nat} {a : α} {M : Mp} {Q : QE} (h : sqOf M x = some (l.map f)) (e : l[i]? = some a) (q : Q (f a) M) : ixD x (.int (i : Int)) M Q :=
  ix_at h (by rw [List.getElem?_map, e]; rfl) q
theorem sq_ref {M : Mp} {a : Addr} {ds : List D} : sqOf (mset M a (.lst ds)) (.ref a) = some ds := by unfold sqOf lsOf; simp only [mset_same]
theorem ls_ref {M : Mp} {a : Addr} {ds : List D} : lsOf (mset M a (.lst ds)) (.ref a) = some ds := by unfold lsOf; simp only [mset_same]
/-- the list is empty? -/
theorem eq_nil {α : Type} [En α] {l : List α} {M : Mp} {Q : QE} (q : Q (.bl l.isEmpty) M) (hd : En.dep α ≤ 63 := by decide) : cmpD .Eq (.lst (l.map En.d)) (.lst []) M Q := by
  have h1 : pyOf M (.lst (l.map En.d)) = some (En.py (Ls.mk l)) := pyOf_of (En.f (Ls.mk l))
  unfold cmpD
  rw [h1, show pyOf M (.lst []) = some (.list []) from rfl]
  refine ⟨shaped_en (α := Ls α) (Nat.succ_le_succ hd) ⟨l⟩, by decide, ?_⟩
  cases l with
  | nil => exact q
  | cons x l => exact q
theorem eq_nilf {α β : Type} [En α] {l : List β} {f : β → α} {M : Mp} {Q : QE} (q : Q (.bl l.isEmpty) M) (hd : En.dep α ≤ 63 := by decide) : cmpD .Eq (.lst (l.map fun x => En.d (f x))) (.lst []) M Q := by
  have h := eq_nil (α := α) (l := l.map f) (M := M) (Q := Q) (by rw [List.isEmpty_map]; exact q) hd
  rw [List.map_map] at h
  exact h
theorem ixN_nat {n j : Nat} (hj : j < n) : L2.ixN n (j : Int) = some j := by
  unfold L2.ixN
  rw [if_pos (by omega), if_pos (by omega)]
  simp
section
variable {m : Bool} {M : Mp} {Q : QE} {i j : Int} {b : Bool}
theorem bin_add : binD m .Add (.int i) (.int j) M Q = Q (.int (i + j)) M := rfl
theorem bin_sub : binD m .Sub (.int i) (.int j) M Q = Q (.int (i - j)) M := rfl
theorem bin_mul : binD m .Mult (.int i) (.int j) M Q = (MulOk i j ∧ Q (.int (i * j)) M) := rfl
theorem bin_fdiv : binD m .FloorDiv (.int i) (.int j) M Q = (DivOk i j ∧ Q (.int (i.fdiv j)) M) := rfl
theorem bin_mod : binD m .Mod (.int i) (.int j) M Q = (j ≠ 0 ∧ Q (.int (i.fmod j)) M) := rfl
theorem bin_pow : binD m .Pow (.int i) (.int j) M Q = (L2.CPow i j ∧ Q (.int (i ^ j.toNat)) M) := rfl
theorem bin_shl : binD m .LShift (.int i) (.int j) M Q = (L2.CPow i j ∧ Q (.int (i * 2 ^ j.toNat)) M) := rfl
theorem bin_shr : binD m .RShift (.int i) (.int j) M Q = (0 ≤ j ∧ Q (.int (i / 2 ^ j.toNat)) M) := rfl
theorem bin_and : binD m .BitAnd (.int i) (.int j) M Q = Q (.int (Builtin.bitAnd i j)) M := rfl
theorem bin_or : binD m .BitOr (.int i) (.int j) M Q = Q (.int (Builtin.bitOr i j)) M := rfl
theorem bin_xor : binD m .BitXor (.int i) (.int j) M Q = Q (.int (Builtin.bitXor i j)) M := rfl
theorem bty_int : btyD m .int [.int i] M Q = Q (.int i) M := rfl
theorem bty_intb : btyD m .int [.bl b] M Q = Q (.int (if b then 1 else 0)) M := rfl
end
theorem sq_of {M : Mp} {a : Addr} {ds : List D} (h : M a = some (.lst ds)) : sqOf M (.ref a) = some ds := by unfold sqOf lsOf; simp only [h]
theorem fmod_pos {i j : Int} (h : 0 < j) : 0 ≤ i.fmod j ∧ i.fmod j < j := ⟨Int.fmod_nonneg_of_pos i h, Int.fmod_lt_of_pos i h⟩
theorem zip_all {α β : Type} (f : α → β → Bool) (a : α) (b : β) : ∀ (p : List α) (q : List β), p.length = q.length → (p.zip q).all (fun z => f z.1 z.2) = (List.range p.length).all fun i => f (p.getD i a) (q.getD i b)
  | [], [], _ => rfl
  | [], _ :: _, h => by simp at h
  | _ :: _, [], h => by simp at h
  | x :: p, y :: q, h => by
    rw [List.zip_cons_cons, List.all_cons, zip_all f a b p q (by simpa using h), List.length_cons, List.range_succ_eq_map, List.all_cons, List.all_map]
    rfl
theorem filter_pos {α : Type} (f : α → Bool) (l : List α) : decide ((0 : Int) < ((l.filter f).length : Int)) = !(l.all fun x => !f x) := by
  induction l with
  | nil => rfl
  | cons x l ih =>
    cases h : f x with
    | true =>
      rw [List.filter_cons_of_pos h, List.all_cons, h, List.length_cons, decide_eq_true (by omega)]; rfl
    | false => rw [List.filter_cons_of_neg (by rw [h]; simp), List.all_cons, h, ih]; rfl
theorem filter_zero {α : Type} (f : α → Bool) (l : List α) : decide (((l.filter f).length : Int) = 0) = l.all fun x => !f x := by
  have h := filter_pos f l
  cases e : l.all fun x => !f x with
  | true => rw [e] at h; have := of_decide_eq_false h; exact decide_eq_true (by omega)
  | false => rw [e] at h; have := of_decide_eq_true h; exact decide_eq_false (by omega)
theorem zip_map {α β γ : Type} (f : α → β → γ) (a : α) (b : β) : ∀ (p : List α) (q : List β), p.length = q.length → (p.zip q).map (fun z => f z.1 z.2) = (List.range p.length).map fun i => f (p.getD i a) (q.getD i b)
  | [], [], _ => rfl
  | [], _ :: _, h => by simp at h
  | _ :: _, [], h => by simp at h
  | x :: p, y :: q, h => by
    rw [List.zip_cons_cons, List.map_cons, zip_map f a b p q (by simpa using h), List.length_cons, List.range_succ_eq_map, List.map_cons, List.map_map]
    rfl
theorem bin_catT {m : Bool} {M : Mp} {Q : QE} {a b : List D} : binD m .Add (.tup a) (.tup b) M Q = (a.length + b.length ≤ sizeLine ∧ Q (.tup (a ++ b)) M) := rfl
theorem cut_none {α : Type} (xs : List α) : cutD xs none none = xs := by
  unfold cutD; rw [HT.sIx_none, HT.sIx_none]; simp
theorem cut_to {α : Type} (xs : List α) (n : Nat) : cutD xs none (some (n : Int)) = xs.take n := by
  unfold cutD; rw [HT.sIx_none, HT.sIx_nat, List.drop_zero, Nat.sub_zero]
  by_cases h : n ≤ xs.length
  · rw [Nat.min_eq_left h]
  · rw [Nat.min_eq_right (by omega), List.take_of_length_le (Nat.le_refl _), List.take_of_length_le (by omega)]
theorem cut_from {α : Type} (xs : List α) (n : Nat) : cutD xs (some (n : Int)) none = xs.drop n := by
  unfold cutD; rw [HT.sIx_none, HT.sIx_nat]
  by_cases h : n ≤ xs.length
  · rw [Nat.min_eq_left h, List.take_of_length_le (by rw [List.length_drop]; omega)]
  · rw [Nat.min_eq_right (by omega), List.drop_of_length_le (Nat.le_refl _), List.drop_of_length_le (by omega)]; simp
theorem cut_mid {α : Type} (xs : List α) (a b : Nat) : cutD xs (some (a : Int)) (some (b : Int)) = (xs.take b).drop a := by
  unfold cutD; rw [HT.sIx_nat, HT.sIx_nat, List.drop_take]
  by_cases h : a ≤ xs.length
  · rw [Nat.min_eq_left h]
    by_cases h2 : b ≤ xs.length
    · rw [Nat.min_eq_left h2]
    · rw [Nat.min_eq_right (by omega), List.take_of_length_le (by rw [List.length_drop]; omega), List.take_of_length_le (by rw [List.length_drop]; omega)]
  · rw [Nat.min_eq_right (a := a) (b := xs.length) (by omega), List.drop_of_length_le (Nat.le_refl xs.length), List.drop_of_length_le (l := xs) (by omega : xs.length ≤ a)]; simp
theorem sIx_neg (n d k : Nat) (hk : 0 < k) : HT.sIx n d (some (-(k : Int))) = n - k := by
  show (if -(k : Int) < 0 then (-(k : Int) + (n : Int)).toNat else _) = _
  rw [if_pos (by omega)]; omega
theorem cut_last {α : Type} (xs : List α) : cutD xs none (some (-1)) = xs.dropLast := by
  unfold cutD
  rw [HT.sIx_none, show (-1 : Int) = -((1 : Nat) : Int) from rfl, sIx_neg _ _ _ (by decide), List.dropLast_eq_take]; simp
theorem en_inj {α : Type} [En α] {a b : α} (h : En.d a = En.d b) : a = b := (En.eq a b).mp (by
  have q1 := En.f a
  rw [h, En.f b] at q1
  rw [Option.some.inj q1]
  exact (En.eq a a).mpr rfl)
theorem ens_inj {α : Type} [En α] {a b : List α} (h : a.map En.d = b.map En.d) : a = b := en_inj (α := List α) (by rw [en_list, en_list, h])
theorem bin_catL {m : Bool} {M : Mp} {Q : QE} {a b : List D} : binD m .Add (.lst a) (.lst b) M Q = (a.length + b.length ≤ sizeLine ∧ newL m (a ++ b) M Q) := rfl
theorem bin_repL {m : Bool} {M : Mp} {Q : QE} {a : List D} {j : Int} : binD m .Mult (.lst a) (.int j) M Q = ((-(2 ^ 62) ≤ j ∧ j ≤ 16777216) ∧ a.length * j.toNat ≤ sizeLine ∧ newL m (List.replicate j.toNat a).flatten M Q) := rfl
theorem bin_repT {m : Bool} {M : Mp} {Q : QE} {a : List D} {j : Int} : binD m .Mult (.tup a) (.int j) M Q = (a ≠ [] ∧ -1000 ≤ j ∧ j ≤ 1000 ∧ a.length ≤ 1000 ∧ Q (.tup (List.replicate j.toNat a).flatten) M) := rfl
theorem rep_flat {α β : Type} (f : α → β) (x : α) : ∀ n : Nat, (List.replicate n [f x]).flatten = (List.replicate n x).map f
  | 0 => rfl
  | n + 1 => by rw [List.replicate_succ, List.replicate_succ, List.flatten_cons, rep_flat f x n]; rfl
end DS

/-! MR1: results as plain data, places and what stands in them -/
namespace DS
open PySem PySem.Spec PyProof.Rows L2
/-- what a step gives: a value, an exception, nothing that can be vouched for, or a value that somebody else draws -/
inductive Rs (α : Type) where
  | ok (a : α) | ex (x : XD) | no | dr (lim : Int) (k : Int → Rs α)
namespace Rs
variable {α β γ : Type}
def bind : Rs α → (α → Rs β) → Rs β
  | .ok a, f => f a
  | .ex x, _ => .ex x
  | .no, _ => .no
  | .dr l k, f => .dr l fun v => (k v).bind f
def wp : Rs α → (α → Prop) → (XD → Prop) → Prop
  | .ok a, Q, _ => Q a
  | .ex x, _, X => X x
  | .no, _, _ => False
  | .dr l k, Q, X => 0 < l ∧ l < 1073741824 ∧ ∀ v, 0 ≤ v → v < l → (k v).wp Q X

instance : Monad Rs where
  pure := .ok
  bind := bind
theorem wp_mono {Q Q' : α → Prop} {X X' : XD → Prop} (h1 : ∀ a, Q a → Q' a) (h2 : ∀ x, X x → X' x) : ∀ {t : Rs α}, t.wp Q X → t.wp Q' X'
  | .ok a, h => h1 a h
  | .ex x, h => h2 x h
  | .no, h => h
  | .dr l k, h => ⟨h.1, h.2.1, fun v a b => wp_mono h1 h2 (h.2.2 v a b)⟩
theorem wp_bind {Q : β → Prop} {X : XD → Prop} {f : α → Rs β} : ∀ {t : Rs α}, (t.bind f).wp Q X ↔ t.wp (fun a => (f a).wp Q X) X
  | .ok a => .rfl
  | .ex x => .rfl
  | .no => .rfl
  | .dr l k => ⟨fun h => ⟨h.1, h.2.1, fun v a b => wp_bind.mp (h.2.2 v a b)⟩, fun h => ⟨h.1, h.2.1, fun v a b => wp_bind.mpr (h.2.2 v a b)⟩⟩
theorem bind_ok : ∀ (t : Rs α), t.bind .ok = t
  | .ok a => rfl
  | .ex x => rfl
  | .no => rfl
  | .dr l k => congrArg (Rs.dr l) (funext fun v => bind_ok (k v))
theorem bind_assoc {f : α → Rs β} {g : β → Rs γ} : ∀ (t : Rs α), (t.bind f).bind g = t.bind fun a => (f a).bind g
  | .ok a => rfl
  | .ex x => rfl
  | .no => rfl
  | .dr l k => congrArg (Rs.dr l) (funext fun v => bind_assoc (k v))
/-- only values are let through -/
def only : Rs α → Rs α
  | .ok a => .ok a
  | .ex _ => .no
  | .no => .no
  | .dr l k => .dr l fun v => (k v).only
theorem only_wp {Q : α → Prop} {X Y : XD → Prop} : ∀ {t : Rs α}, t.only.wp Q X → t.wp Q Y
  | .ok a, h => h
  | .ex x, h => h.elim
  | .no, h => h.elim
  | .dr l k, h => ⟨h.1, h.2.1, fun v a b => only_wp (h.2.2 v a b)⟩
def map (f : α → β) (t : Rs α) : Rs β := t.bind fun a => .ok (f a)
def fold {σ : Type} (f : σ → α → Rs σ) : List α → σ → Rs σ
  | [], s => .ok s
  | x :: xs, s => (f s x).bind (fold f xs)
/-- .. while nothing is raised: a list's items made one by one -/
def comp (c : α → Rs Bool) (f : α → Rs β) : List α → Rs (List β)
  | [] => .ok []
  | x :: xs => (c x).only.bind fun b => if b then (f x).only.bind fun y => (comp c f xs).bind fun ys => .ok (y :: ys) else comp c f xs
def mapR (f : α → Rs β) : List α → Rs (List β)
  | [] => .ok []
  | x :: xs => (f x).only.bind fun y => (mapR f xs).bind fun ys => .ok (y :: ys)
theorem comp_map (f : α → Rs β) : ∀ xs : List α, comp (fun _ => .ok true) f xs = mapR f xs
  | [] => rfl
  | x :: xs => by unfold comp mapR; rw [comp_map f xs]; rfl
theorem comp_ok (c : α → Bool) (f : α → β) : ∀ xs : List α, comp (fun x => .ok (c x)) (fun x => .ok (f x)) xs = .ok ((xs.filter c).map f)
  | [] => rfl
  | x :: xs => by
    unfold comp
    rw [comp_ok c f xs]
    show (if c x = true then _ else _) = _
    cases h : c x with
    | true => rw [List.filter_cons_of_pos h]; rfl
    | false => rw [List.filter_cons_of_neg (by rw [h]; exact Bool.false_ne_true)]; rfl
theorem mapR_ok (f : α → β) : ∀ xs : List α, mapR (fun x => .ok (f x)) xs = .ok (xs.map f)
  | [] => rfl
  | x :: xs => by unfold mapR; rw [mapR_ok f xs]; rfl
theorem mapR_eq {f : α → Rs β} {g : α → β} : ∀ {xs : List α}, (∀ x ∈ xs, f x = .ok (g x)) → mapR f xs = .ok (xs.map g)
  | [], _ => rfl
  | x :: xs, h => by unfold mapR; rw [h x (List.mem_cons_self ..), mapR_eq fun y hy => h y (List.mem_cons_of_mem _ hy)]; rfl
theorem comp_eq {c : α → Rs Bool} {f : α → Rs β} {p : α → Bool} {g : α → β} : ∀ {xs : List α}, (∀ x ∈ xs, c x = .ok (p x)) → (∀ x ∈ xs, p x = true → f x = .ok (g x)) → comp c f xs = .ok ((xs.filter p).map g)
  | [], _, _ => rfl
  | x :: xs, h, k => by
    unfold comp
    rw [h x (List.mem_cons_self ..), comp_eq (fun y hy => h y (List.mem_cons_of_mem _ hy)) fun y hy => k y (List.mem_cons_of_mem _ hy)]
    show (if p x = true then _ else _) = _
    cases e : p x with
    | true => rw [List.filter_cons_of_pos e, k x (List.mem_cons_self ..) e]; rfl
    | false => rw [List.filter_cons_of_neg (by rw [e]; exact Bool.false_ne_true)]; rfl
end Rs
-- Rs
/-- how a block ends -/
inductive Ct (σ β : Type) where
  | nx (s : σ) | rt (v : β) | bk (s : σ)
/-- how a loop ends -/
inductive Lp (σ β : Type) where
  | dn (s : σ) | rt (v : β)
def Lp.el {σ β δ : Type} (c : Lp σ β) (f : σ → δ) (g : β → δ) : δ := match c with
  | .dn s => f s
  | .rt v => g v
def Ct.el {σ β δ : Type} (c : Ct σ β) (f : σ → δ) (g : β → δ) (h : σ → δ) : δ := match c with
  | .nx s => f s
  | .rt v => g v
  | .bk s => h s
namespace Rs
variable {α β σ : Type}
def loop (f : σ → α → Rs (Ct σ β)) : List α → σ → Rs (Lp σ β)
  | [], s => .ok (.dn s)
  | x :: xs, s => (f s x).bind fun r => match r with
    | .nx s => loop f xs s
    | .bk s => .ok (.dn s)
    | .rt v => .ok (.rt v)
def whileR (c : σ → Rs Bool) (f : σ → Rs (Ct σ β)) : Nat → σ → Rs (Lp σ β)
  | 0, _ => .no
  | n + 1, s => (c s).bind fun k => if k then (f s).bind fun r => (match r with
    | .nx s => whileR c f n s
    | .bk s => .ok (.dn s)
    | .rt v => .ok (.rt v)) else .ok (.dn s)
end Rs

/-! ### the law's draws -/
structure Dr where
  cells : List Int
  p : Nat
  big : Int
  seed : Int
  hb : 0 ≤ big
  hs : 0 ≤ seed
  ht : seed < 2147483648
def Dr.l (s : Dr) : List D := [.lst (s.cells.map D.int), .int s.p, .int s.big, .int s.seed]
abbrev Dr.o (s : Dr) : MO := .lst s.l

/-! ### places -/
/-- where draws are made: one list; or a list that holds another one -/
abbrev Dw := Option (Addr × Option Addr)
def inDr : Dw → Addr → Prop
  | none, _ => False
  | some (a, none), b => b = a
  | some (a, some c), b => b = a ∨ b = c
def DrOk : Dw → Mp → Prop
  | none, _ => True
  | some (a, none), M => ∃ st : Dr, M a = some st.o
  | some (a, some c), M => a ≠ c ∧ ∃ (cells : List Int) (seed : Int), M a = some (.lst [.ref c, .int seed]) ∧ M c = some (.lst (cells.map D.int)) ∧ 0 ≤ seed ∧ seed < 2147483648
theorem DrOk.some {dr : Dw} {M : Mp} {a : Addr} (h : DrOk dr M) (e : inDr dr a) : ∃ o, M a = Option.some o := by
  cases dr with
  | none => exact e.elim
  | some p =>
    obtain ⟨p, c⟩ := p
    cases c with
    | none => have e : a = p := e; subst e; obtain ⟨st, q⟩ := h; exact ⟨_, q⟩
    | some c =>
      obtain ⟨_, cells, seed, q1, q2, _⟩ := h
      rcases e with e | e
      · subst e; exact ⟨_, q1⟩
      · subst e; exact ⟨_, q2⟩
theorem DrOk.congr {dr : Dw} {M M' : Mp} (h : DrOk dr M) (k : ∀ a, inDr dr a → M' a = M a) : DrOk dr M' := by
  cases dr with
  | none => trivial
  | some p =>
    obtain ⟨p, c⟩ := p
    cases c with
    | none => obtain ⟨st, q⟩ := h; exact ⟨st, (k p rfl).trans q⟩
    | some c => obtain ⟨n, cells, seed, q1, q2, q3⟩ := h; exact ⟨n, cells, seed, (k p (.inl rfl)).trans q1, (k c (.inr rfl)).trans q2, q3⟩
/-- what a call may change: the draws, and what it owns -/
structure MLe (dr : Dw) (own : List Addr) (M M' : Mp) : Prop where
  keep : ∀ a o, M a = some o → ¬ inDr dr a → a ∉ own → M' a = some o
  draw : DrOk dr M → DrOk dr M'
  live : ∀ a ∈ own, M a ≠ none → M' a ≠ none
theorem MLe.refl {dr : Dw} {own : List Addr} {M : Mp} : MLe dr own M M := ⟨fun _ _ h _ _ => h, fun h => h, fun _ _ h => h⟩
theorem MLe.trans {dr : Dw} {own : List Addr} {M M1 M2 : Mp} (a : MLe dr own M M1) (b : MLe dr own M1 M2) : MLe dr own M M2 :=
  ⟨fun x o h h1 h2 => b.keep x o (a.keep x o h h1 h2) h1 h2, fun h => b.draw (a.draw h), fun x e h => b.live x e (a.live x e h)⟩
/-- one's own room -/
structure Fr where
  n : Nat
  M0 : Mp
  own : List Addr
  dr : Dw
abbrev PP := Dw → Mp → D → Prop
/-- what stands in a slot -/
inductive Sl where
  | junk
  | ar (P : PP)
  /-- an object that may be changed: made here, or handed in -/
  | mu (loc : Bool) (o : MO)
abbrev FrOk (F : Fr) (M : Mp) : Prop := MLe F.dr F.own F.M0 M
def Sl.at (F : Fr) (M : Mp) : Sl → Option D → Prop
  | .junk, _ => True
  | .ar P, c => ∃ x, c = some x ∧ ∀ M', FrOk F M' → P F.dr M' x
  | .mu loc o, c => ∃ a, c = some (.ref a) ∧ M a = some o ∧ match loc with
    | true => F.M0 a = none
    | false => a ∈ F.own ∧ ¬ inDr F.dr a
structure Rel (F : Fr) (sh : List Sl) (ρ : Env1) (M : Mp) : Prop where
  len : ρ.length = F.n
  le : sh.length ≤ F.n
  sl : ∀ i s, nth sh i = some s → s.at F M (slot ρ i)
  dj : ∀ i j l l' o o' a, i ≠ j → nth sh i = some (.mu l o) → nth sh j = some (.mu l' o') → slot ρ i = some (.ref a) → slot ρ j = some (.ref a) → False
  fr : FrOk F M
  d0 : DrOk F.dr F.M0
  o0 : ∀ a ∈ F.own, F.M0 a ≠ none
theorem nth_set_same {α : Type} {x y : α} : ∀ {l : List α} {i : Nat}, nth (l.set i x) i = some y → y = x
  | [], i, h => by cases i <;> cases h
  | _ :: _, 0, h => by cases h; rfl
  | _ :: l, i + 1, h => nth_set_same (l := l) (i := i) h
theorem nth_set_ne {α : Type} {x : α} : ∀ {l : List α} {i j : Nat}, i ≠ j → nth (l.set i x) j = nth l j
  | [], i, j, h => by cases i <;> rfl
  | _ :: _, 0, 0, h => absurd rfl h
  | _ :: _, 0, j + 1, h => rfl
  | _ :: _, i + 1, 0, h => rfl
  | _ :: l, i + 1, j + 1, h => nth_set_ne (l := l) (i := i) (j := j) fun e => h (by rw [e])
theorem slot_set_same {c : Option D} : ∀ {ρ : Env1} {i : Nat}, i < ρ.length → slot (ρ.set i c) i = c
  | [], i, h => by cases h
  | _ :: _, 0, h => rfl
  | _ :: l, i + 1, h => slot_set_same (ρ := l) (i := i) (Nat.lt_of_succ_lt_succ h)
theorem slot_set_ne {c : Option D} : ∀ {ρ : Env1} {i j : Nat}, i ≠ j → slot (ρ.set i c) j = slot ρ j
  | [], i, j, h => by cases i <;> rfl
  | _ :: _, 0, 0, h => absurd rfl h
  | _ :: _, 0, j + 1, h => rfl
  | _ :: _, i + 1, 0, h => rfl
  | _ :: l, i + 1, j + 1, h => slot_set_ne (ρ := l) (i := i) (j := j) fun e => h (by rw [e])
theorem nth_lt {α : Type} {x : α} : ∀ {l : List α} {i : Nat}, nth l i = some x → i < l.length
  | _ :: _, 0, _ => Nat.succ_pos _
  | _ :: l, i + 1, h => Nat.succ_lt_succ (nth_lt (l := l) (i := i) h)
theorem slot_lt {x : D} : ∀ {l : Env1} {i : Nat}, slot l i = some x → i < l.length
  | _ :: _, 0, _ => Nat.succ_pos _
  | _ :: l, i + 1, h => Nat.succ_lt_succ (slot_lt (l := l) (i := i) h)
section
variable {F : Fr} {sh : List Sl} {ρ : Env1} {M M' : Mp}
/-- nothing of ours changes -/
theorem Rel.mono (r : Rel F sh ρ M) (h : MLe F.dr [] M M') : Rel F sh ρ M' := by
  refine ⟨r.len, r.le, fun i s e => ?_, r.dj, r.fr.trans ⟨fun a o q n _ => h.keep a o q n (fun z => by cases z), h.draw, fun a ha q => ?_⟩, r.d0, r.o0⟩
  · have q := r.sl i s e
    cases s with
    | junk => trivial
    | ar P => exact q
    | mu loc o =>
      obtain ⟨a, h1, h2, h3⟩ := q
      refine ⟨a, h1, h.keep a o h2 (fun z => ?_) (fun z => by cases z), h3⟩
      cases loc with
      | true => obtain ⟨st, q⟩ := r.d0.some z; rw [show F.M0 a = none from h3] at q; cases q
      | false => exact h3.2 z
  · intro e
    by_cases hd : inDr F.dr a
    · obtain ⟨st, q1⟩ := (h.draw (r.fr.draw r.d0)).some hd; rw [e] at q1; cases q1
    · cases e2 : M a with
      | none => exact q e2
      | some o => rw [h.keep a o e2 hd (fun z => by cases z)] at e; cases e
theorem Rel.set (r : Rel F sh ρ M) {i : Nat} {P : PP} {x : D} (hi : i < F.n) (h : ∀ M', FrOk F M' → P F.dr M' x) : Rel F (sh.set i (.ar P)) (ρ.set i (some x)) M := by
  have hi' : i < ρ.length := by rw [r.len]; exact hi
  refine ⟨by rw [List.length_set]; exact r.len, by rw [List.length_set]; exact r.le, fun j s e => ?_, fun j k l l' o o' a hjk h1 h2 h3 h4 => ?_, r.fr, r.d0, r.o0⟩
  · by_cases hij : i = j
    · subst hij
      rw [nth_set_same e, slot_set_same hi']
      exact ⟨x, rfl, h⟩
    · rw [nth_set_ne hij] at e
      rw [slot_set_ne hij]; exact r.sl j s e
  · have n1 : i ≠ j := fun e => by subst e; cases nth_set_same h1
    have n2 : i ≠ k := fun e => by subst e; cases nth_set_same h2
    rw [nth_set_ne n1] at h1
    rw [nth_set_ne n2] at h2
    rw [slot_set_ne n1] at h3
    rw [slot_set_ne n2] at h4
    exact r.dj j k l l' o o' a hjk h1 h2 h3 h4
theorem Rel.setJ (r : Rel F sh ρ M) {i : Nat} {c : Option D} : Rel F (sh.set i .junk) (ρ.set i c) M := by
  refine ⟨by rw [List.length_set]; exact r.len, by rw [List.length_set]; exact r.le, fun j s e => ?_, fun j k l l' o o' a hjk h1 h2 h3 h4 => ?_, r.fr, r.d0, r.o0⟩
  · by_cases hij : i = j
    · subst hij
      rw [nth_set_same e]; trivial
    · rw [nth_set_ne hij] at e
      rw [slot_set_ne hij]; exact r.sl j s e
  · have n1 : i ≠ j := fun e => by subst e; cases nth_set_same h1
    have n2 : i ≠ k := fun e => by subst e; cases nth_set_same h2
    rw [nth_set_ne n1] at h1
    rw [nth_set_ne n2] at h2
    rw [slot_set_ne n1] at h3
    rw [slot_set_ne n2] at h4
    exact r.dj j k l l' o o' a hjk h1 h2 h3 h4
/-- a place that is none of ours so far -/
theorem Rel.fresh (r : Rel F sh ρ M) {p : Addr} (h : M p = none) : F.M0 p = none ∧ ¬ inDr F.dr p ∧ p ∉ F.own := by
  have h1 : ¬ inDr F.dr p := fun e => by obtain ⟨st, q⟩ := (r.fr.draw r.d0).some e; rw [h] at q; cases q
  have h2 : p ∉ F.own := fun e => r.fr.live p e (r.o0 p e) h
  refine ⟨?_, h1, h2⟩
  cases e : F.M0 p with
  | none => rfl
  | some o => rw [r.fr.keep p o e h1 h2] at h; cases h
theorem MLe.new {dr : Dw} {own : List Addr} {p : Addr} {o : MO} (h : M p = none) : MLe dr own M (mset M p o) := by
  have e : ∀ a, M a ≠ none → mset M p o a = M a := fun a q => mset_ne fun e => q (by rw [e]; exact h)
  exact ⟨fun a u q _ _ => by rw [e a (by rw [q]; exact fun z => by cases z)]; exact q, fun q => q.congr fun a ha => by obtain ⟨o, z⟩ := q.some ha; exact e a (by rw [z]; exact fun z => by cases z), fun a _ q => by rw [e a q]; exact q⟩
theorem Rel.new (r : Rel F sh ρ M) {i : Nat} {p : Addr} {o : MO} (hi : i < F.n) (h : M p = none) : Rel F (sh.set i (.mu true o)) (ρ.set i (some (.ref p))) (mset M p o) := by
  have hi' : i < ρ.length := by rw [r.len]; exact hi
  have r2 : Rel F sh ρ (mset M p o) := r.mono (MLe.new h)
  have nomut : ∀ {j l o'}, nth sh j = some (.mu l o') → slot ρ j ≠ some (.ref p) := fun {j l o'} e q => by
    obtain ⟨a, h1, h2, _⟩ := r.sl j _ e
    rw [q] at h1; cases h1
    rw [h] at h2; cases h2
  refine ⟨by rw [List.length_set]; exact r.len, by rw [List.length_set]; exact r.le, fun j s e => ?_, fun j k l l' o1 o2 a hjk h1 h2 h3 h4 => ?_, r2.fr, r.d0, r.o0⟩
  · by_cases hij : i = j
    · subst hij
      rw [nth_set_same e, slot_set_same hi']
      exact ⟨p, rfl, mset_same, (r.fresh h).1⟩
    · rw [nth_set_ne hij] at e
      rw [slot_set_ne hij]; exact r2.sl j s e
  · by_cases n1 : i = j
    · subst n1
      rw [nth_set_ne hjk] at h2
      rw [slot_set_ne hjk] at h4
      rw [slot_set_same hi'] at h3
      cases h3
      exact nomut h2 h4
    · rw [nth_set_ne n1] at h1
      rw [slot_set_ne n1] at h3
      by_cases n2 : i = k
      · subst n2
        rw [slot_set_same hi'] at h4
        cases h4
        exact nomut h1 h3
      · rw [nth_set_ne n2] at h2
        rw [slot_set_ne n2] at h4
        exact r.dj j k l l' o1 o2 a hjk h1 h2 h3 h4
/-- one of ours is changed -/
theorem Rel.wr (r : Rel F sh ρ M) {i : Nat} {a : Addr} {loc : Bool} {o o' : MO} (h : nth sh i = some (.mu loc o)) (ha : slot ρ i = some (.ref a)) : Rel F (sh.set i (.mu loc o')) ρ (mset M a o') := by
  obtain ⟨a', h1, h2, h3⟩ := r.sl i _ h
  rw [ha] at h1; cases h1
  have hfr : ¬ inDr F.dr a ∧ (F.M0 a = none ∨ a ∈ F.own) := by
    cases loc with
    | true => exact ⟨(fun e => by obtain ⟨st, q⟩ := r.d0.some e; rw [show F.M0 a = none from h3] at q; cases q), .inl h3⟩
    | false => exact ⟨h3.2, .inr h3.1⟩
  refine ⟨r.len, by rw [List.length_set]; exact r.le, fun j s e => ?_, fun j k l l' o1 o2 b hjk q1 q2 q3 q4 => ?_, ?_, r.d0, r.o0⟩
  · by_cases hij : i = j
    · subst hij
      rw [nth_set_same e]
      exact ⟨a, ha, mset_same, h3⟩
    · rw [nth_set_ne hij] at e
      have q := r.sl j s e
      cases s with
      | junk => trivial
      | ar P => exact q
      | mu l u =>
        obtain ⟨b, q1, q2, q3⟩ := q
        have nb : b ≠ a := fun z => by subst z; exact r.dj i j _ _ _ _ b hij h e ha q1
        exact ⟨b, q1, by rw [mset_ne nb]; exact q2, q3⟩
  · have go : ∀ {j l o1}, nth (sh.set i (.mu loc o')) j = some (.mu l o1) → ∃ l o1, nth sh j = some (.mu l o1) := fun {j l o1} e => by
      by_cases hij : i = j
      · subst hij; exact ⟨_, _, h⟩
      · rw [nth_set_ne hij] at e; exact ⟨_, _, e⟩
    obtain ⟨_, _, q1⟩ := go q1
    obtain ⟨_, _, q2⟩ := go q2
    exact r.dj j k _ _ _ _ b hjk q1 q2 q3 q4
  · refine ⟨fun b u q n1 n2 => ?_, fun q => (r.fr.draw q).congr fun b e => ?_, fun b hb q => ?_⟩
    · have nb : b ≠ a := fun z => by
        subst z
        rcases hfr.2 with z | z
        · rw [z] at q; cases q
        · exact n2 z
      rw [mset_ne nb]; exact r.fr.keep b u q n1 n2
    · have nb : b ≠ a := fun z => by subst z; exact hfr.1 e
      exact mset_ne nb
    · by_cases nb : b = a
      · subst nb; rw [mset_same]; exact fun z => by cases z
      · rw [mset_ne nb]; exact r.fr.live b hb q
/-- one of ours is given up: it is only read from now on -/
theorem Rel.fz (r : Rel F sh ρ M) {i : Nat} {a : Addr} {o : MO} {P : PP} {x : D} (h : nth sh i = some (.mu true o)) (ha : slot ρ i = some (.ref a)) (hx : ∀ M', FrOk F M' → P F.dr M' x) : Rel F (sh.set i (.ar P)) (ρ.set i (some x)) (mdel M a) := by
  obtain ⟨a', h1, h2, h3⟩ := r.sl i _ h
  rw [ha] at h1; cases h1
  have h3 : F.M0 a = none := h3
  have hi : i < ρ.length := slot_lt ha
  have hd : ¬ inDr F.dr a := fun e => by obtain ⟨st, q⟩ := r.d0.some e; rw [h3] at q; cases q
  have ho : a ∉ F.own := fun e => r.o0 a e h3
  refine ⟨by rw [List.length_set]; exact r.len, by rw [List.length_set]; exact r.le, fun j s e => ?_, fun j k l l' o1 o2 b hjk q1 q2 q3 q4 => ?_, ?_, r.d0, r.o0⟩
  · by_cases hij : i = j
    · subst hij
      rw [nth_set_same e, slot_set_same hi]
      exact ⟨x, rfl, hx⟩
    · rw [nth_set_ne hij] at e
      rw [slot_set_ne hij]
      have q := r.sl j s e
      cases s with
      | junk => trivial
      | ar P => exact q
      | mu l u =>
        obtain ⟨b, q1, q2, q3⟩ := q
        have nb : b ≠ a := fun z => by subst z; exact r.dj i j _ _ _ _ b hij h e ha q1
        exact ⟨b, q1, by rw [mdel_ne nb]; exact q2, q3⟩
  · have n1 : i ≠ j := fun e => by subst e; cases nth_set_same q1
    have n2 : i ≠ k := fun e => by subst e; cases nth_set_same q2
    rw [nth_set_ne n1] at q1
    rw [nth_set_ne n2] at q2
    rw [slot_set_ne n1] at q3
    rw [slot_set_ne n2] at q4
    exact r.dj j k l l' o1 o2 b hjk q1 q2 q3 q4
  · refine ⟨fun b u q n1 n2 => ?_, fun q => (r.fr.draw q).congr fun b e => ?_, fun b hb q => ?_⟩
    · have nb : b ≠ a := fun z => by subst z; rw [h3] at q; cases q
      rw [mdel_ne nb]; exact r.fr.keep b u q n1 n2
    · have nb : b ≠ a := fun z => by subst z; exact hd e
      exact mdel_ne nb
    · have nb : b ≠ a := fun z => by subst z; exact ho hb
      rw [mdel_ne nb]; exact r.fr.live b hb q
/-- less is known -/
inductive Wk : List Sl → List Sl → Prop
  | nil {l} : Wk l []
  | junk {s l l'} : Wk l l' → Wk (s :: l) (.junk :: l')
  | same {s l l'} : Wk l l' → Wk (s :: l) (s :: l')
theorem Wk.at : ∀ {sh sh' : List Sl}, Wk sh sh' → ∀ {i : Nat} {s : Sl}, nth sh' i = some s → s = .junk ∨ nth sh i = some s
  | _, _, .nil, _, _, h => by cases h
  | _, _, .junk _, 0, _, h => .inl (Option.some.inj h).symm
  | _, _, .junk w, i + 1, _, h => Wk.at w (i := i) h
  | _, _, .same _, 0, _, h => .inr h
  | _, _, .same w, i + 1, _, h => Wk.at w (i := i) h
theorem Wk.le : ∀ {sh sh' : List Sl}, Wk sh sh' → sh'.length ≤ sh.length
  | _, _, .nil => Nat.zero_le _
  | _, _, .junk w => Nat.succ_le_succ w.le
  | _, _, .same w => Nat.succ_le_succ w.le
theorem Rel.wk {sh' : List Sl} (r : Rel F sh ρ M) (w : Wk sh sh') : Rel F sh' ρ M := by
  refine ⟨r.len, Nat.le_trans w.le r.le, fun i s e => ?_, fun j k l l' o o' a hjk h1 h2 h3 h4 => ?_, r.fr, r.d0, r.o0⟩
  · rcases w.at e with h | h
    · subst h; trivial
    · exact r.sl i s h
  · rcases w.at h1 with q1 | q1
    · cases q1
    rcases w.at h2 with q2 | q2
    · cases q2
    exact r.dj j k l l' o o' a hjk q1 q2 h3 h4
end
end DS

/-! MR2: Lean types as data -/
namespace DS
open PySem PySem.Spec PyProof.Rows L2
class Tc (α : Type) where
  d : α → D
/-- a text -/
def sd (s : String) : Str := Str.ofString s
theorem sd_eq (s : String) : sd s = ⟨(s.toList.map Char.toNat).toArray⟩ := Str.ofString_eq_toList s
theorem sd_inj {s t : String} (h : sd s = sd t) : s = t := by
  rw [sd_eq, sd_eq] at h
  have h1 : (s.toList.map Char.toNat).toArray = (t.toList.map Char.toNat).toArray := congrArg Str.cps h
  have h2 : s.toList.map Char.toNat = t.toList.map Char.toNat := by simpa using h1
  have h3 : s.toList = t.toList := List.map_inj_right (fun a b e => Char.toNat_inj.mp e) |>.mp h2
  exact String.toList_inj.mp h3
theorem sd_iff {s t : String} : sd s = sd t ↔ s = t := ⟨sd_inj, fun h => by rw [h]⟩
theorem sd_ok (s : String) : PyData.strOk (sd s) = true := by
  unfold PyData.strOk
  rw [sd_eq]
  simp only [List.all_toArray, List.all_map, List.all_eq_true, Function.comp]
  intro c _
  refine decide_eq_true ?_
  have h := c.valid
  show c.val.toNat < 0x110000
  rcases h with h | ⟨_, h⟩
  · exact Nat.lt_trans h (by decide)
  · exact h
theorem sd_append (s t : String) : sd (s ++ t) = sd s ++ sd t := by
  rw [sd_eq, sd_eq, sd_eq]
  show _ = Str.mk _
  simp [String.toList_append]
theorem sd_length (s : String) : (sd s).length = s.length := by
  rw [sd_eq]
  show Array.size _ = _
  simp [String.length_toList]
instance : Tc D := ⟨id⟩
instance : Tc Int := ⟨.int⟩
instance : Tc Bool := ⟨.bl⟩
instance : Tc String := ⟨fun s => .str (sd s)⟩
instance : Tc Unit := ⟨fun _ => .non⟩
instance {α : Type} [Tc α] : Tc (Option α) := ⟨fun a => match a with | none => .non | some a => Tc.d a⟩
/-- a tuple of any length -/
instance {α : Type} [Tc α] : Tc (List α) := ⟨fun l => .tup (l.map Tc.d)⟩
/-- a list -/
@[ext] structure Li (α : Type) where
  l : List α
  deriving DecidableEq
instance {α : Type} [Tc α] : Tc (Li α) := ⟨fun l => .lst (l.l.map Tc.d)⟩
/-- a list that stands outside -/
structure Fl (α : Type) where
  l : List α
instance {α : Type} [Tc α] : Tc (Fl α) := ⟨fun l => .frl (l.l.map Tc.d)⟩
/-- a dict -/
class Kc (κ : Type) [DecidableEq κ] [Tc κ] where
  k : κ → Key
  inj : ∀ a b, k a = k b → a = b
  kd : ∀ a, keyD (Tc.d a) = some (k a)
instance : Kc Int := ⟨.inl, fun _ _ h => Sum.inl.inj h, fun _ => rfl⟩
instance : Kc String := ⟨fun s => .inr (sd s), fun _ _ h => sd_inj (Sum.inr.inj h), fun _ => rfl⟩
structure Di (κ α : Type) where
  l : List (κ × α)
  deriving DecidableEq
def kvD {κ α : Type} [DecidableEq κ] [Tc κ] [Kc κ] [Tc α] (p : κ × α) : Key × D := (Kc.k p.1, Tc.d p.2)
instance {κ α : Type} [DecidableEq κ] [Tc κ] [Kc κ] [Tc α] : Tc (Di κ α) := ⟨fun l => .dic (l.l.map kvD)⟩
/-! equality -/
class Py (α : Type) [Tc α] where
  py : α → PyData
  f : ∀ a : α, pyF (Tc.d a) = some (py a)
  lay : ∀ a, (py a).canLay0 = true
  eq : ∀ a b, PyData.eqv (py a) (py b) = true ↔ a = b
  dep : Nat
  dep_le : ∀ a, (py a).depth ≤ dep
/-- .. none of which is None -/
class PyN (α : Type) [Tc α] [Py α] where
  nn : ∀ a : α, PyData.eqv (Py.py a) .none = false ∧ PyData.eqv .none (Py.py a) = false
instance : Py Int := ⟨.int, fun _ => by show pyF (.int _) = _; rw [pyF], fun _ => by rw [PyData.canLay0], fun a b => by simp only [PyData.eqv, beq_iff_eq], 0, fun _ => by rw [PyData.depth]; exact Nat.le_refl _⟩
instance : PyN Int := ⟨fun a => ⟨by show PyData.eqv (.int _) _ = _; simp only [PyData.eqv], by show PyData.eqv _ (.int _) = _; simp only [PyData.eqv]⟩⟩
instance : Py Bool := ⟨.bool, fun _ => by show pyF (.bl _) = _; rw [pyF], fun _ => by rw [PyData.canLay0], fun a b => by simp only [PyData.eqv, beq_iff_eq], 0, fun _ => by rw [PyData.depth]; exact Nat.le_refl _⟩
instance : PyN Bool := ⟨fun a => ⟨by show PyData.eqv (.bool _) _ = _; simp only [PyData.eqv], by show PyData.eqv _ (.bool _) = _; simp only [PyData.eqv]⟩⟩
instance : Py String := ⟨fun s => .str (sd s), fun _ => by show pyF (.str _) = _; rw [pyF], fun x => by rw [PyData.canLay0]; exact sd_ok x, fun a b => by simp only [PyData.eqv, beq_iff_eq]; exact sd_iff, 0, fun _ => by rw [PyData.depth]; exact Nat.le_refl _⟩
instance : PyN String := ⟨fun a => ⟨by show PyData.eqv (.str _) _ = _; simp only [PyData.eqv], by show PyData.eqv _ (.str _) = _; simp only [PyData.eqv]⟩⟩
section
variable {α β : Type} [Tc α] [Py α] [Tc β] [Py β]
def optPy' : Option α → PyData
  | none => .none
  | some a => Py.py a
instance [PyN α] : Py (Option α) := ⟨optPy', fun a => by cases a with | none => show pyF .non = _; rw [pyF, optPy'] | some a => exact Py.f a,
  fun a => by cases a with | none => rw [optPy', PyData.canLay0] | some a => exact Py.lay a,
  fun a b => by
    cases a with
    | none => cases b with
      | none => simp only [optPy', PyData.eqv]
      | some b => simp only [optPy', (PyN.nn b).2]; simp
    | some a => cases b with
      | none => simp only [optPy', (PyN.nn a).1]; simp
      | some b => simp only [optPy', Py.eq, Option.some.injEq], Py.dep α, fun a => by cases a with | none => rw [optPy', PyData.depth]; exact Nat.zero_le _ | some a => exact Py.dep_le a⟩
theorem pys_map : ∀ l : List α, pyFs (l.map Tc.d) = some (l.map Py.py)
  | [] => by rw [List.map_nil, pyFs]; rfl
  | x :: l => by rw [List.map_cons, pyFs, Py.f, pys_map l]; rfl
theorem lays_map : ∀ l : List α, PyData.canLayAll0 (l.map Py.py) = true
  | [] => by rw [List.map_nil, PyData.canLayAll0]
  | x :: l => by rw [List.map_cons, PyData.canLayAll0, Py.lay, lays_map l]; rfl
theorem eqs_map : ∀ l m : List α, PyData.eqvAll (l.map Py.py) (m.map Py.py) = true ↔ l = m
  | [], [] => by simp [PyData.eqvAll]
  | [], _ :: _ => by simp [PyData.eqvAll]
  | _ :: _, [] => by simp [PyData.eqvAll]
  | x :: l, y :: m => by rw [List.map_cons, List.map_cons, PyData.eqvAll, Bool.and_eq_true_iff, Py.eq, eqs_map l m, List.cons.injEq]
theorem deps_map : ∀ l : List α, PyData.depthAll (l.map Py.py) ≤ Py.dep α
  | [] => by rw [List.map_nil, PyData.depthAll]; exact Nat.zero_le _
  | x :: l => by rw [List.map_cons, PyData.depthAll]; exact Nat.max_le.mpr ⟨Py.dep_le x, deps_map l⟩
instance : Py (List α) := ⟨fun l => .tuple (l.map Py.py), fun l => by show pyF (.tup _) = _; rw [pyF, pys_map l]; rfl, fun l => by rw [PyData.canLay0]; exact lays_map l,
  fun l m => by rw [PyData.eqv]; exact eqs_map l m, Py.dep α + 1, fun l => by rw [PyData.depth]; exact Nat.succ_le_succ (deps_map l)⟩
instance : PyN (List α) := ⟨fun a => ⟨by show PyData.eqv (.tuple _) _ = _; simp only [PyData.eqv], by show PyData.eqv _ (.tuple _) = _; simp only [PyData.eqv]⟩⟩
instance : Py (Li α) := ⟨fun l => .list (l.l.map Py.py), fun l => by show pyF (.lst _) = _; rw [pyF, pys_map l.l]; rfl, fun l => by rw [PyData.canLay0]; exact lays_map l.l,
  fun l m => by rw [PyData.eqv]; cases l; cases m; rw [eqs_map]; simp, Py.dep α + 1, fun l => by rw [PyData.depth]; exact Nat.succ_le_succ (deps_map l.l)⟩
instance : PyN (Li α) := ⟨fun a => ⟨by show PyData.eqv (.list _) _ = _; simp only [PyData.eqv], by show PyData.eqv _ (.list _) = _; simp only [PyData.eqv]⟩⟩
end
theorem shaped_py {α : Type} [Tc α] [Py α] (h : Py.dep α ≤ 64) (a : α) : SeqAt.shaped (Py.py a) = true := by
  unfold SeqAt.shaped
  rw [Py.lay a, decide_eq_true (Nat.le_trans (Py.dep_le a) h)]; rfl
theorem eqv_py {α : Type} [Tc α] [Py α] [DecidableEq α] (a b : α) : PyData.eqv (Py.py a) (Py.py b) = decide (a = b) := by
  rw [Bool.eq_iff_iff, Py.eq, decide_eq_true_eq]

/-- a tuple of 1 -/
@[ext] structure T1 (A : Type) where
  a : A
  deriving DecidableEq
instance {A : Type} [Tc A] : Tc (T1 A) := ⟨fun t => .tup [Tc.d t.a]⟩
instance {A : Type} [Tc A] [Py A] : Py (T1 A) := ⟨fun t => .tuple [Py.py t.a], fun t => by show pyF (.tup _) = _; simp only [pyF, pyFs, Py.f]; rfl,
  fun t => by simp only [PyData.canLay0, PyData.canLayAll0, Py.lay]; rfl, fun s t => by simp only [PyData.eqv, PyData.eqvAll, Bool.and_true, Bool.and_eq_true_iff, Py.eq, T1.ext_iff], Py.dep A + 1, fun t => by
    simp only [PyData.depth, PyData.depthAll]; exact Nat.succ_le_succ (Nat.max_le.mpr ⟨Py.dep_le _, Nat.zero_le _⟩)⟩
instance {A : Type} [Tc A] [Py A] : PyN (T1 A) := ⟨fun a => ⟨by show PyData.eqv (.tuple _) _ = _; simp only [PyData.eqv], by show PyData.eqv _ (.tuple _) = _; simp only [PyData.eqv]⟩⟩
/-- a tuple of 2 -/
@[ext] structure T2 (A B : Type) where
  a : A
  b : B
  deriving DecidableEq
instance {A B : Type} [Tc A] [Tc B] : Tc (T2 A B) := ⟨fun t => .tup [Tc.d t.a, Tc.d t.b]⟩
instance {A B : Type} [Tc A] [Py A] [Tc B] [Py B] : Py (T2 A B) := ⟨fun t => .tuple [Py.py t.a, Py.py t.b], fun t => by show pyF (.tup _) = _; simp only [pyF, pyFs, Py.f]; rfl,
  fun t => by simp only [PyData.canLay0, PyData.canLayAll0, Py.lay]; rfl, fun s t => by simp only [PyData.eqv, PyData.eqvAll, Bool.and_true, Bool.and_eq_true_iff, Py.eq, T2.ext_iff], max (Py.dep A) (Py.dep B) + 1, fun t => by
    simp only [PyData.depth, PyData.depthAll]; exact Nat.succ_le_succ (Nat.max_le.mpr ⟨Nat.le_trans (Py.dep_le _) (Nat.le_max_left _ _), Nat.le_trans (Nat.max_le.mpr ⟨Py.dep_le _, Nat.zero_le _⟩) (Nat.le_max_right _ _)⟩)⟩
instance {A B : Type} [Tc A] [Py A] [Tc B] [Py B] : PyN (T2 A B) := ⟨fun a => ⟨by show PyData.eqv (.tuple _) _ = _; simp only [PyData.eqv], by show PyData.eqv _ (.tuple _) = _; simp only [PyData.eqv]⟩⟩
/-- a tuple of 3 -/
@[ext] structure T3 (A B C : Type) where
  a : A
  b : B
  c : C
  deriving DecidableEq
instance {A B C : Type} [Tc A] [Tc B] [Tc C] : Tc (T3 A B C) := ⟨fun t => .tup [Tc.d t.a, Tc.d t.b, Tc.d t.c]⟩
instance {A B C : Type} [Tc A] [Py A] [Tc B] [Py B] [Tc C] [Py C] : Py (T3 A B C) := ⟨fun t => .tuple [Py.py t.a, Py.py t.b, Py.py t.c], fun t => by show pyF (.tup _) = _; simp only [pyF, pyFs, Py.f]; rfl,
  fun t => by simp only [PyData.canLay0, PyData.canLayAll0, Py.lay]; rfl, fun s t => by simp only [PyData.eqv, PyData.eqvAll, Bool.and_true, Bool.and_eq_true_iff, Py.eq, T3.ext_iff], max (Py.dep A) (max (Py.dep B) (Py.dep C)) + 1, fun t => by
    simp only [PyData.depth, PyData.depthAll]; exact Nat.succ_le_succ (Nat.max_le.mpr ⟨Nat.le_trans (Py.dep_le _) (Nat.le_max_left _ _), Nat.le_trans (Nat.max_le.mpr ⟨Nat.le_trans (Py.dep_le _) (Nat.le_max_left _ _), Nat.le_trans (Nat.max_le.mpr ⟨Py.dep_le _, Nat.zero_le _⟩) (Nat.le_max_right _ _)⟩) (Nat.le_max_right _ _)⟩)⟩
instance {A B C : Type} [Tc A] [Py A] [Tc B] [Py B] [Tc C] [Py C] : PyN (T3 A B C) := ⟨fun a => ⟨by show PyData.eqv (.tuple _) _ = _; simp only [PyData.eqv], by show PyData.eqv _ (.tuple _) = _; simp only [PyData.eqv]⟩⟩
/-- a tuple of 4 -/
@[ext] structure T4 (A B C D : Type) where
  a : A
  b : B
  c : C
  d : D
  deriving DecidableEq
instance {A B C D : Type} [Tc A] [Tc B] [Tc C] [Tc D] : Tc (T4 A B C D) := ⟨fun t => .tup [Tc.d t.a, Tc.d t.b, Tc.d t.c, Tc.d t.d]⟩
instance {A B C D : Type} [Tc A] [Py A] [Tc B] [Py B] [Tc C] [Py C] [Tc D] [Py D] : Py (T4 A B C D) := ⟨fun t => .tuple [Py.py t.a, Py.py t.b, Py.py t.c, Py.py t.d], fun t => by show pyF (.tup _) = _; simp only [pyF, pyFs, Py.f]; rfl,
  fun t => by simp only [PyData.canLay0, PyData.canLayAll0, Py.lay]; rfl, fun s t => by simp only [PyData.eqv, PyData.eqvAll, Bool.and_true, Bool.and_eq_true_iff, Py.eq, T4.ext_iff], max (Py.dep A) (max (Py.dep B) (max (Py.dep C) (Py.dep D))) + 1, fun t => by
    simp only [PyData.depth, PyData.depthAll]; exact Nat.succ_le_succ (Nat.max_le.mpr ⟨Nat.le_trans (Py.dep_le _) (Nat.le_max_left _ _), Nat.le_trans (Nat.max_le.mpr ⟨Nat.le_trans (Py.dep_le _) (Nat.le_max_left _ _), Nat.le_trans (Nat.max_le.mpr ⟨Nat.le_trans (Py.dep_le _) (Nat.le_max_left _ _), Nat.le_trans (Nat.max_le.mpr ⟨Py.dep_le _, Nat.zero_le _⟩) (Nat.le_max_right _ _)⟩) (Nat.le_max_right _ _)⟩) (Nat.le_max_right _ _)⟩)⟩
instance {A B C D : Type} [Tc A] [Py A] [Tc B] [Py B] [Tc C] [Py C] [Tc D] [Py D] : PyN (T4 A B C D) := ⟨fun a => ⟨by show PyData.eqv (.tuple _) _ = _; simp only [PyData.eqv], by show PyData.eqv _ (.tuple _) = _; simp only [PyData.eqv]⟩⟩
/-- a tuple of 5 -/
@[ext] structure T5 (A B C D E : Type) where
  a : A
  b : B
  c : C
  d : D
  e : E
  deriving DecidableEq
instance {A B C D E : Type} [Tc A] [Tc B] [Tc C] [Tc D] [Tc E] : Tc (T5 A B C D E) := ⟨fun t => .tup [Tc.d t.a, Tc.d t.b, Tc.d t.c, Tc.d t.d, Tc.d t.e]⟩
instance {A B C D E : Type} [Tc A] [Py A] [Tc B] [Py B] [Tc C] [Py C] [Tc D] [Py D] [Tc E] [Py E] : Py (T5 A B C D E) := ⟨fun t => .tuple [Py.py t.a, Py.py t.b, Py.py t.c, Py.py t.d, Py.py t.e], fun t => by show pyF (.tup _) = _; simp only [pyF, pyFs, Py.f]; rfl,
  fun t => by simp only [PyData.canLay0, PyData.canLayAll0, Py.lay]; rfl, fun s t => by simp only [PyData.eqv, PyData.eqvAll, Bool.and_true, Bool.and_eq_true_iff, Py.eq, T5.ext_iff], max (Py.dep A) (max (Py.dep B) (max (Py.dep C) (max (Py.dep D) (Py.dep E)))) + 1, fun t => by
    simp only [PyData.depth, PyData.depthAll]; exact Nat.succ_le_succ (Nat.max_le.mpr ⟨Nat.le_trans (Py.dep_le _) (Nat.le_max_left _ _), Nat.le_trans (Nat.max_le.mpr ⟨Nat.le_trans (Py.dep_le _) (Nat.le_max_left _ _), Nat.le_trans (Nat.max_le.mpr ⟨Nat.le_trans (Py.dep_le _) (Nat.le_max_left _ _), Nat.le_trans (Nat.max_le.mpr ⟨Nat.le_trans (Py.dep_le _) (Nat.le_max_left _ _), Nat.le_trans (Nat.max_le.mpr ⟨Py.dep_le _, Nat.zero_le _⟩) (Nat.le_max_right _ _)⟩) (Nat.le_max_right _ _)⟩) (Nat.le_max_right _ _)⟩) (Nat.le_max_right _ _)⟩)⟩
instance {A B C D E : Type} [Tc A] [Py A] [Tc B] [Py B] [Tc C] [Py C] [Tc D] [Py D] [Tc E] [Py E] : PyN (T5 A B C D E) := ⟨fun a => ⟨by show PyData.eqv (.tuple _) _ = _; simp only [PyData.eqv], by show PyData.eqv _ (.tuple _) = _; simp only [PyData.eqv]⟩⟩
/-- a tuple of 6 -/
@[ext] structure T6 (A B C D E F : Type) where
  a : A
  b : B
  c : C
  d : D
  e : E
  f : F
  deriving DecidableEq
instance {A B C D E F : Type} [Tc A] [Tc B] [Tc C] [Tc D] [Tc E] [Tc F] : Tc (T6 A B C D E F) := ⟨fun t => .tup [Tc.d t.a, Tc.d t.b, Tc.d t.c, Tc.d t.d, Tc.d t.e, Tc.d t.f]⟩
instance {A B C D E F : Type} [Tc A] [Py A] [Tc B] [Py B] [Tc C] [Py C] [Tc D] [Py D] [Tc E] [Py E] [Tc F] [Py F] : Py (T6 A B C D E F) := ⟨fun t => .tuple [Py.py t.a, Py.py t.b, Py.py t.c, Py.py t.d, Py.py t.e, Py.py t.f], fun t => by show pyF (.tup _) = _; simp only [pyF, pyFs, Py.f]; rfl,
  fun t => by simp only [PyData.canLay0, PyData.canLayAll0, Py.lay]; rfl, fun s t => by simp only [PyData.eqv, PyData.eqvAll, Bool.and_true, Bool.and_eq_true_iff, Py.eq, T6.ext_iff], max (Py.dep A) (max (Py.dep B) (max (Py.dep C) (max (Py.dep D) (max (Py.dep E) (Py.dep F))))) + 1, fun t => by
    simp only [PyData.depth, PyData.depthAll]; exact Nat.succ_le_succ (Nat.max_le.mpr ⟨Nat.le_trans (Py.dep_le _) (Nat.le_max_left _ _), Nat.le_trans (Nat.max_le.mpr ⟨Nat.le_trans (Py.dep_le _) (Nat.le_max_left _ _), Nat.le_trans (Nat.max_le.mpr ⟨Nat.le_trans (Py.dep_le _) (Nat.le_max_left _ _), Nat.le_trans (Nat.max_le.mpr ⟨Nat.le_trans (Py.dep_le _) (Nat.le_max_left _ _), Nat.le_trans (Nat.max_le.mpr ⟨Nat.le_trans (Py.dep_le _) (Nat.le_max_left _ _), Nat.le_trans (Nat.max_le.mpr ⟨Py.dep_le _, Nat.zero_le _⟩) (Nat.le_max_right _ _)⟩) (Nat.le_max_right _ _)⟩) (Nat.le_max_right _ _)⟩) (Nat.le_max_right _ _)⟩) (Nat.le_max_right _ _)⟩)⟩
instance {A B C D E F : Type} [Tc A] [Py A] [Tc B] [Py B] [Tc C] [Py C] [Tc D] [Py D] [Tc E] [Py E] [Tc F] [Py F] : PyN (T6 A B C D E F) := ⟨fun a => ⟨by show PyData.eqv (.tuple _) _ = _; simp only [PyData.eqv], by show PyData.eqv _ (.tuple _) = _; simp only [PyData.eqv]⟩⟩
end DS

/-! MR3: what an expression is worth -/
namespace DS
open PySem PySem.Spec PyProof.Rows L2
/-- e is worth t: behind it P holds of what stands there -/
def Ev (G : Gam) (F : Fr) (sh : List Sl) {γ : Type} (e : E) (P : γ → PP) (t : Rs γ) : Prop :=
  ∀ (W : XW) (ρ : Env1) (M : Mp) (Q : QE), Rel F sh ρ M → t.wp (fun v => ∀ x M', Rel F sh ρ M' → (∀ M'', Rel F sh ρ M'' → P v F.dr M'' x) → Q x M') (fun x => ∀ M', Rel F sh ρ M' → W x ρ M') → wpE G W e ρ M Q
def EvL (G : Gam) (F : Fr) (sh : List Sl) {γ : Type} (es : EL) (P : γ → Dw → Mp → List D → Prop) (t : Rs γ) : Prop :=
  ∀ (W : XW) (ρ : Env1) (M : Mp) (Q : List D → Mp → Prop), Rel F sh ρ M → t.wp (fun v => ∀ xs M', Rel F sh ρ M' → (∀ M'', Rel F sh ρ M'' → P v F.dr M'' xs) → Q xs M') (fun x => ∀ M', Rel F sh ρ M' → W x ρ M') → wpL G W es ρ M Q
def EvO (G : Gam) (F : Fr) (sh : List Sl) (e : EO) (t : Rs (Option Int)) : Prop :=
  ∀ (W : XW) (ρ : Env1) (M : Mp) (Q : Option Int → Mp → Prop), Rel F sh ρ M → t.wp (fun v => ∀ M', Rel F sh ρ M' → Q v M') (fun x => ∀ M', Rel F sh ρ M' → W x ρ M') → wpO G W e ρ M Q
section
variable {α : Type} [Tc α]
/-- the very value -/
abbrev Pv (v : α) : PP := fun _ _ x => x = Tc.d v
/-- a sequence of these items -/
abbrev Ps (l : List α) : PP := fun _ M x => sqOf M x = some (l.map Tc.d)
/-- a list of these items -/
abbrev Pl (l : List α) : PP := fun _ M x => lsOf M x = some (l.map Tc.d)
variable {κ : Type} [DecidableEq κ] [Tc κ] [Kc κ]
/-- a dict -/
abbrev Pk (l : List (κ × α)) : PP := fun _ M x => dcOf M x = some (l.map kvD)
def ml (l : List α) : MO := .lst (l.map Tc.d)
def md (l : List (κ × α)) : MO := .dic (l.map kvD)
end
section
variable {G : Gam} {F : Fr} {sh : List Sl} {α β γ δ : Type}
theorem Ev.imp {e : E} {P : α → PP} {P' : β → PP} {t : Rs α} (f : α → β) (h : Ev G F sh e P t) (k : ∀ v dr M x, P v dr M x → P' (f v) dr M x) : Ev G F sh e P' (t.map f) := by
  intro W ρ M Q r w
  refine h W ρ M Q r (Rs.wp_mono (fun v q x M' r' p => ?_) (fun _ q => q) (Rs.wp_bind.mp w))
  exact q x M' r' fun M'' r'' => k _ _ _ _ (p M'' r'')
theorem Ev.var {i : Nat} {P : α → PP} {v : α} (h : nth sh i = some (.ar (P v))) : Ev G F sh (.var i) P (.ok v) := by
  intro W ρ M Q r w
  obtain ⟨x, e, hx⟩ := r.sl i _ h
  unfold wpE; rw [e]
  exact w x M r fun M'' r'' => hx M'' r''.fr
theorem Ev.mv [Tc α] {i : Nat} {loc : Bool} {l : List α} (h : nth sh i = some (.mu loc (ml l))) : Ev G F sh (.var i) (Pl (α := α)) (.ok l) := by
  intro W ρ M Q r w
  obtain ⟨a, e, h1, _⟩ := r.sl i _ h
  unfold wpE; rw [e]
  refine w _ M r fun M'' r'' => ?_
  obtain ⟨a', e', h1', _⟩ := r''.sl i _ h
  rw [e] at e'; cases e'
  show lsOf M'' (.ref a) = _
  unfold lsOf; simp only [h1', ml]
theorem Ev.mdv {κ : Type} [DecidableEq κ] [Tc κ] [Kc κ] [Tc α] {i : Nat} {loc : Bool} {l : List (κ × α)} (h : nth sh i = some (.mu loc (md l))) : Ev G F sh (.var i) (Pk (κ := κ) (α := α)) (.ok l) := by
  intro W ρ M Q r w
  obtain ⟨a, e, h1, _⟩ := r.sl i _ h
  unfold wpE; rw [e]
  refine w _ M r fun M'' r'' => ?_
  obtain ⟨a', e', h1', _⟩ := r''.sl i _ h
  rw [e] at e'; cases e'
  show dcOf M'' (.ref a) = _
  unfold dcOf; simp only [h1', md]
theorem Ev.int (i : Int) : Ev G F sh (.int i) (Pv (α := Int)) (.ok i) := fun W ρ M Q r w => by unfold wpE; exact w _ M r fun _ _ => rfl
theorem Ev.bl (i : Bool) : Ev G F sh (.bl i) (Pv (α := Bool)) (.ok i) := fun W ρ M Q r w => by unfold wpE; exact w _ M r fun _ _ => rfl
theorem Ev.str (i : String) : Ev G F sh (.str (sd i)) (Pv (α := String)) (.ok i) := fun W ρ M Q r w => by unfold wpE; exact w _ M r fun _ _ => rfl
theorem Ev.non [Tc α] : Ev G F sh .non (Pv (α := Option α)) (.ok none) := fun W ρ M Q r w => by unfold wpE; exact w _ M r fun _ _ => rfl
theorem Ev.nonU : Ev G F sh .non (Pv (α := Unit)) (.ok ()) := fun W ρ M Q r w => by unfold wpE; exact w _ M r fun _ _ => rfl
theorem Ev.nonD : Ev G F sh .non (Pv (α := D)) (.ok .non) := fun W ρ M Q r w => by unfold wpE; exact w _ M r fun _ _ => rfl
theorem Ev.cst [Tc α] {i : Nat} {v : α} (h : nth G.cst i = some (Tc.d v)) : Ev G F sh (.cst i) (Pv (α := α)) (.ok v) := fun W ρ M Q r w => by unfold wpE; rw [h]; exact w _ M r fun _ _ => rfl
/-- a value as an option, as plain data -/
theorem Ev.opt [Tc α] {e : E} {t : Rs α} (h : Ev G F sh e (Pv (α := α)) t) : Ev G F sh e (Pv (α := Option α)) (t.map Option.some) := h.imp Option.some fun _ _ _ _ q => q
theorem Ev.dyn [Tc α] {e : E} {t : Rs α} (h : Ev G F sh e (Pv (α := α)) t) : Ev G F sh e (Pv (α := D)) (t.map Tc.d) := h.imp Tc.d fun _ _ _ _ q => q
theorem Ev.sTup [Tc α] {e : E} {t : Rs (List α)} (h : Ev G F sh e (Pv (α := List α)) t) : Ev G F sh e (Ps (α := α)) t := by
  have := h.imp (P' := Ps (α := α)) (fun l => l) fun _ _ _ _ q => by cases q; rfl
  rwa [show t.map (fun l => l) = t from Rs.bind_ok t] at this
theorem Ev.lLi [Tc α] {e : E} {t : Rs (Li α)} (h : Ev G F sh e (Pv (α := Li α)) t) : Ev G F sh e (Pl (α := α)) (t.map Li.l) := h.imp _ fun _ _ _ _ q => by cases q; rfl
theorem Ev.lFl [Tc α] {e : E} {t : Rs (Fl α)} (h : Ev G F sh e (Pv (α := Fl α)) t) : Ev G F sh e (Pl (α := α)) (t.map Fl.l) := h.imp _ fun _ _ _ _ q => by cases q; rfl
theorem sq_ls {M : Mp} {x : D} {ds : List D} (h : lsOf M x = Option.some ds) : sqOf M x = Option.some ds := by
  cases x <;> first | exact h | cases h
theorem Ev.sLs [Tc α] {e : E} {t : Rs (List α)} (h : Ev G F sh e (Pl (α := α)) t) : Ev G F sh e (Ps (α := α)) t := by
  have := h.imp (P' := Ps (α := α)) (fun l => l) fun _ _ _ _ q => sq_ls q
  rwa [show t.map (fun l => l) = t from Rs.bind_ok t] at this
theorem Ev.kDi {κ : Type} [DecidableEq κ] [Tc κ] [Kc κ] [Tc α] {e : E} {t : Rs (Di κ α)} (h : Ev G F sh e (Pv (α := Di κ α)) t) : Ev G F sh e (Pk (κ := κ) (α := α)) (t.map Di.l) := h.imp _ fun _ _ _ _ q => by cases q; rfl
/-- two values, then a step on them -/
theorem ev_two {e1 e2 e' : E} {P1 : α → PP} {P2 : β → PP} {P3 : γ → PP} {t1 : Rs α} {t2 : Rs β} {f : α → β → Rs γ} {op : D → D → Mp → QE → Prop}
    (hw : ∀ W ρ M Q, wpE G W e' ρ M Q = wpE G W e1 ρ M fun x M1 => wpE G W e2 ρ M1 fun y M2 => op x y M2 Q)
    (hop : ∀ a b x y dr M Q X, P1 a dr M x → P2 b dr M y → (f a b).wp (fun v => ∀ z, (∀ M'', P3 v dr M'' z) → Q z M) X → op x y M Q)
    (h1 : Ev G F sh e1 P1 t1) (h2 : Ev G F sh e2 P2 t2) : Ev G F sh e' P3 (t1.bind fun a => t2.bind fun b => f a b) := by
  intro W ρ M Q r w
  rw [hw]
  refine h1 W ρ M _ r (Rs.wp_mono (fun a q x M1 r1 p1 => ?_) (fun _ q => q) (Rs.wp_bind.mp w))
  refine h2 W ρ M1 _ r1 (Rs.wp_mono (fun b q y M2 r2 p2 => ?_) (fun _ q => q) (Rs.wp_bind.mp q))
  refine hop a b x y F.dr M2 Q _ (p1 M2 r2) (p2 M2 r2) (Rs.wp_mono (fun v q z hz => ?_) (fun _ q => q) q)
  exact q z M2 r2 fun M'' _ => hz M''
theorem ev_one {e1 e' : E} {P1 : α → PP} {P3 : γ → PP} {t1 : Rs α} {f : α → Rs γ} {op : D → Mp → QE → Prop}
    (hw : ∀ W ρ M Q, wpE G W e' ρ M Q = wpE G W e1 ρ M fun x M1 => op x M1 Q)
    (hop : ∀ a x dr M Q X, P1 a dr M x → (f a).wp (fun v => ∀ z, (∀ M'', P3 v dr M'' z) → Q z M) X → op x M Q)
    (h1 : Ev G F sh e1 P1 t1) : Ev G F sh e' P3 (t1.bind fun a => f a) := by
  intro W ρ M Q r w
  rw [hw]
  refine h1 W ρ M _ r (Rs.wp_mono (fun a q x M1 r1 p1 => ?_) (fun _ q => q) (Rs.wp_bind.mp w))
  refine hop a x F.dr M1 Q _ (p1 M1 r1) (Rs.wp_mono (fun v q z hz => ?_) (fun _ q => q) q)
  exact q z M1 r1 fun M'' _ => hz M''
end
/-! ### steps that may have no value -/
def Rs.of {α : Type} : Option α → Rs α
  | some a => .ok a
  | none => .no
/-- a guard -/
def gd {α : Type} (p : Prop) [Decidable p] (a : α) : Rs α := if p then .ok a else .no
theorem gd_ok {α : Type} {p : Prop} [Decidable p] {a : α} (h : p) : gd p a = .ok a := if_pos h
theorem gd_wp {α : Type} {p : Prop} [Decidable p] {a : α} {Q : α → Prop} {X : XD → Prop} (h : (gd p a).wp Q X) : p ∧ Q a := by
  unfold gd at h; split at h
  · rename_i hp; exact ⟨hp, h⟩
  · exact h.elim
theorem of_wp {α : Type} {o : Option α} {Q : α → Prop} {X : XD → Prop} (h : (Rs.of o).wp Q X) : ∃ a, o = some a ∧ Q a := by
  cases o with
  | none => exact h.elim
  | some a => exact ⟨a, rfl, h⟩
instance {i j : Int} : Decidable (MulOk i j) := by unfold MulOk CMul; infer_instance
instance {i j : Int} : Decidable (CPow i j) := by unfold CPow; infer_instance
def mulR (x y : Int) : Rs Int := gd (MulOk x y) (x * y)
def divR (x y : Int) : Rs Int := gd (0 < y ∧ y < 1073741824) (x / y)
def modR (x y : Int) : Rs Int := gd (0 < y) (x % y)
def powR (x y : Int) : Rs Int := gd (CPow x y) (x ^ y.toNat)
def shlR (x y : Int) : Rs Int := gd (CPow x y) (x * 2 ^ y.toNat)
def shrR (x y : Int) : Rs Int := gd (0 ≤ y) (x / 2 ^ y.toNat)
abbrev band (x y : Int) : Int := Builtin.bitAnd x y
abbrev bor (x y : Int) : Int := Builtin.bitOr x y
abbrev bxor (x y : Int) : Int := Builtin.bitXor x y
def catR {α : Type} (x y : List α) : Rs (List α) := gd (x.length + y.length ≤ 16777216) (x ++ y)
def catS (x y : String) : Rs String := gd (x.length + y.length ≤ 16777216) (x ++ y)
def ixR {α : Type} (l : List α) (i : Int) : Rs α := Rs.of (L2.atI l i)
def dget {κ α : Type} [DecidableEq κ] (l : List (κ × α)) (k : κ) : Option α := (l.find? fun p => decide (p.1 = k)).map (·.2)
def dhas {κ α : Type} [DecidableEq κ] (l : List (κ × α)) (k : κ) : Bool := l.any fun p => decide (p.1 = k)
def dput {κ α : Type} [DecidableEq κ] (l : List (κ × α)) (k : κ) (v : α) : List (κ × α) := if dhas l k then l.map fun p => if p.1 = k then (p.1, v) else p else l ++ [(k, v)]
def dixR {κ α : Type} [DecidableEq κ] (l : List (κ × α)) (k : κ) : Rs α := Rs.of (dget l k)
theorem atI_map {α β : Type} (f : α → β) (l : List α) (i : Int) : L2.atI (l.map f) i = (L2.atI l i).map f := by
  unfold L2.atI
  rw [List.length_map]
  cases L2.ixN l.length i with
  | none => rfl
  | some j => exact List.getElem?_map
section
variable {κ : Type} [DecidableEq κ] [Tc κ] [Kc κ] {α : Type} [Tc α]
theorem kc_iff {a b : κ} : Kc.k a = Kc.k b ↔ a = b := ⟨Kc.inj a b, fun h => by rw [h]⟩
theorem valD_map (k : κ) : ∀ l : List (κ × α), valD (l.map kvD) (Kc.k k) = (dget l k).map Tc.d
  | [] => rfl
  | (a, v) :: l => by
    rw [List.map_cons]
    show (if Kc.k a = Kc.k k then _ else _) = _
    unfold dget
    rw [List.find?_cons]
    by_cases h : a = k
    · rw [if_pos (kc_iff.mpr h), decide_eq_true (show (a, v).1 = k from h)]; rfl
    · rw [if_neg (fun e => h (kc_iff.mp e)), decide_eq_false (show ¬ (a, v).1 = k from h)]; exact valD_map k l
theorem has_map (k : κ) (l : List (κ × α)) : (valD (l.map kvD) (Kc.k k)).isSome = dhas l k := by
  rw [valD_map]
  unfold dget dhas
  rw [Option.isSome_map, Option.isSome_map, Bool.eq_iff_iff, List.find?_isSome, List.any_eq_true]
theorem put_map (k : κ) (v : α) (l : List (κ × α)) : putKD (l.map kvD) (Kc.k k) (Tc.d v) = (dput l k v).map kvD := by
  unfold putKD dput
  have e : ((l.map kvD).any fun kv => decide (kv.1 = Kc.k k)) = dhas l k := by
    unfold dhas
    rw [List.any_map]
    congr 1
    funext p
    exact decide_eq_decide.mpr kc_iff
  rw [e]
  by_cases h : dhas l k = true
  · rw [if_pos h, if_pos h, List.map_map, List.map_map]
    refine List.map_congr_left fun p _ => ?_
    show (if Kc.k p.1 = Kc.k k then _ else _) = kvD (if p.1 = k then _ else _)
    by_cases hp : p.1 = k
    · rw [if_pos hp, if_pos (kc_iff.mpr hp)]; rfl
    · rw [if_neg hp, if_neg (fun e => hp (kc_iff.mp e))]
  · rw [if_neg h, if_neg h, List.map_append, List.map_cons, List.map_nil]
    rfl
end
end DS

/-! MR4: expressions, construct by construct -/
namespace DS
open PySem PySem.Spec PyProof.Rows L2
section
variable {G : Gam} {F : Fr} {sh : List Sl} {α β γ δ : Type} {e e1 e2 : E} {m : Bool}
variable {ti tj : Rs Int} {tb tc : Rs Bool}
/-! ### whole numbers -/
theorem ev_bin [Tc α] [Tc β] [Tc γ] {t1 : Rs α} {t2 : Rs β} {op : Operator} (f : α → β → Rs γ) (hop : ∀ a b M Q X, (f a b).wp (fun v => Q (Tc.d v) M) X → binD m op (Tc.d a) (Tc.d b) M Q)
    (h1 : Ev G F sh e1 (Pv (α := α)) t1) (h2 : Ev G F sh e2 (Pv (α := β)) t2) : Ev G F sh (.bin m op e1 e2) (Pv (α := γ)) (t1.bind fun x => t2.bind fun y => f x y) := by
  refine ev_two (f := f) (op := fun x y M Q => binD m op x y M Q) (fun _ _ _ _ => rfl) ?_ h1 h2
  rintro a b _ _ dr M Q X rfl rfl w
  exact hop a b M Q X (Rs.wp_mono (fun v q => q _ fun _ => rfl) (fun _ q => q) w)
theorem ev_cmp {P1 : α → PP} {P2 : β → PP} {t1 : Rs α} {t2 : Rs β} {op : CmpOp} (f : α → β → Bool) (hop : ∀ a b x y dr M Q, P1 a dr M x → P2 b dr M y → Q (.bl (f a b)) M → cmpD op x y M Q)
    (h1 : Ev G F sh e1 P1 t1) (h2 : Ev G F sh e2 P2 t2) : Ev G F sh (.cmp op e1 e2) (Pv (α := Bool)) (t1.bind fun x => t2.bind fun y => .ok (f x y)) := by
  refine ev_two (f := fun a b => .ok (f a b)) (op := fun x y M Q => cmpD op x y M Q) (fun _ _ _ _ => rfl) ?_ h1 h2
  intro a b x y dr M Q X p1 p2 w
  exact hop a b x y dr M Q p1 p2 (w _ fun _ => rfl)
theorem Ev.add (h1 : Ev G F sh e1 (Pv (α := Int)) ti) (h2 : Ev G F sh e2 (Pv (α := Int)) tj) : Ev G F sh (.bin m .Add e1 e2) (Pv (α := Int)) (ti.bind fun x => tj.bind fun y => .ok (x + y)) :=
  ev_bin (fun x y : Int => .ok (x + y)) (fun _ _ _ _ _ w => w) h1 h2
theorem Ev.sub (h1 : Ev G F sh e1 (Pv (α := Int)) ti) (h2 : Ev G F sh e2 (Pv (α := Int)) tj) : Ev G F sh (.bin m .Sub e1 e2) (Pv (α := Int)) (ti.bind fun x => tj.bind fun y => .ok (x - y)) :=
  ev_bin (fun x y : Int => .ok (x - y)) (fun _ _ _ _ _ w => w) h1 h2
theorem Ev.mul (h1 : Ev G F sh e1 (Pv (α := Int)) ti) (h2 : Ev G F sh e2 (Pv (α := Int)) tj) : Ev G F sh (.bin m .Mult e1 e2) (Pv (α := Int)) (ti.bind fun x => tj.bind fun y => mulR x y) :=
  ev_bin (mulR) (fun _ _ _ _ _ w => let ⟨h, q⟩ := gd_wp w; ⟨h, q⟩) h1 h2
theorem Ev.div (h1 : Ev G F sh e1 (Pv (α := Int)) ti) (h2 : Ev G F sh e2 (Pv (α := Int)) tj) : Ev G F sh (.bin m .FloorDiv e1 e2) (Pv (α := Int)) (ti.bind fun x => tj.bind fun y => divR x y) :=
  ev_bin (divR) (fun a b M Q X w => by
    obtain ⟨⟨h, h2⟩, q⟩ := gd_wp w
    refine ⟨⟨by omega, by omega⟩, ?_⟩
    rw [Int.fdiv_eq_ediv_of_nonneg _ (by omega)]; exact q) h1 h2
theorem Ev.mod (h1 : Ev G F sh e1 (Pv (α := Int)) ti) (h2 : Ev G F sh e2 (Pv (α := Int)) tj) : Ev G F sh (.bin m .Mod e1 e2) (Pv (α := Int)) (ti.bind fun x => tj.bind fun y => modR x y) :=
  ev_bin (modR) (fun a b M Q X w => by
    obtain ⟨h, q⟩ := gd_wp w
    refine ⟨by omega, ?_⟩
    rw [Int.fmod_eq_emod_of_nonneg _ (by omega)]; exact q) h1 h2
theorem Ev.pow (h1 : Ev G F sh e1 (Pv (α := Int)) ti) (h2 : Ev G F sh e2 (Pv (α := Int)) tj) : Ev G F sh (.bin m .Pow e1 e2) (Pv (α := Int)) (ti.bind fun x => tj.bind fun y => powR x y) :=
  ev_bin (powR) (fun _ _ _ _ _ w => let ⟨h, q⟩ := gd_wp w; ⟨h, q⟩) h1 h2
theorem Ev.shl (h1 : Ev G F sh e1 (Pv (α := Int)) ti) (h2 : Ev G F sh e2 (Pv (α := Int)) tj) : Ev G F sh (.bin m .LShift e1 e2) (Pv (α := Int)) (ti.bind fun x => tj.bind fun y => shlR x y) :=
  ev_bin (shlR) (fun _ _ _ _ _ w => let ⟨h, q⟩ := gd_wp w; ⟨h, q⟩) h1 h2
theorem Ev.shr (h1 : Ev G F sh e1 (Pv (α := Int)) ti) (h2 : Ev G F sh e2 (Pv (α := Int)) tj) : Ev G F sh (.bin m .RShift e1 e2) (Pv (α := Int)) (ti.bind fun x => tj.bind fun y => shrR x y) :=
  ev_bin (shrR) (fun _ _ _ _ _ w => let ⟨h, q⟩ := gd_wp w; ⟨h, q⟩) h1 h2
theorem Ev.band (h1 : Ev G F sh e1 (Pv (α := Int)) ti) (h2 : Ev G F sh e2 (Pv (α := Int)) tj) : Ev G F sh (.bin m .BitAnd e1 e2) (Pv (α := Int)) (ti.bind fun x => tj.bind fun y => .ok (DS.band x y)) :=
  ev_bin (fun x y : Int => .ok (DS.band x y)) (fun _ _ _ _ _ w => w) h1 h2
theorem Ev.bor (h1 : Ev G F sh e1 (Pv (α := Int)) ti) (h2 : Ev G F sh e2 (Pv (α := Int)) tj) : Ev G F sh (.bin m .BitOr e1 e2) (Pv (α := Int)) (ti.bind fun x => tj.bind fun y => .ok (DS.bor x y)) :=
  ev_bin (fun x y : Int => .ok (DS.bor x y)) (fun _ _ _ _ _ w => w) h1 h2
theorem Ev.bxor (h1 : Ev G F sh e1 (Pv (α := Int)) ti) (h2 : Ev G F sh e2 (Pv (α := Int)) tj) : Ev G F sh (.bin m .BitXor e1 e2) (Pv (α := Int)) (ti.bind fun x => tj.bind fun y => .ok (DS.bxor x y)) :=
  ev_bin (fun x y : Int => .ok (DS.bxor x y)) (fun _ _ _ _ _ w => w) h1 h2
/-- .. with a written number -/
theorem Ev.mulk {k : Int} (hk : -(2 ^ 64) < k ∧ k < 2 ^ 64) (h1 : Ev G F sh e1 (Pv (α := Int)) ti) : Ev G F sh (.bin m .Mult e1 (.int k)) (Pv (α := Int)) (ti.bind fun x => .ok (x * k)) := by
  have h := Ev.mul (m := m) h1 (Ev.int (G := G) (F := F) (sh := sh) k)
  have e : (fun x => mulR x k) = fun x => Rs.ok (x * k) := funext fun x => gd_ok (.inr hk)
  rwa [show (ti.bind fun x => (Rs.ok k).bind fun y => mulR x y) = ti.bind fun x => mulR x k from rfl, e] at h
theorem Ev.kmul {k : Int} (hk : -(2 ^ 64) < k ∧ k < 2 ^ 64) (h1 : Ev G F sh e1 (Pv (α := Int)) ti) : Ev G F sh (.bin m .Mult (.int k) e1) (Pv (α := Int)) (ti.bind fun x => .ok (k * x)) := by
  have h := Ev.mul (m := m) (Ev.int (G := G) (F := F) (sh := sh) k) h1
  have e : (fun x => mulR k x) = fun x => Rs.ok (k * x) := funext fun x => gd_ok (.inl hk)
  rwa [show ((Rs.ok k).bind fun x => ti.bind fun y => mulR x y) = ti.bind fun x => mulR k x from rfl, e] at h
theorem Ev.divk {k : Int} (hk : 0 < k ∧ k < 1073741824) (h1 : Ev G F sh e1 (Pv (α := Int)) ti) : Ev G F sh (.bin m .FloorDiv e1 (.int k)) (Pv (α := Int)) (ti.bind fun x => .ok (x / k)) := by
  have h := Ev.div (m := m) h1 (Ev.int (G := G) (F := F) (sh := sh) k)
  have e : (fun x => divR x k) = fun x => Rs.ok (x / k) := funext fun x => gd_ok hk
  rwa [show (ti.bind fun x => (Rs.ok k).bind fun y => divR x y) = ti.bind fun x => divR x k from rfl, e] at h
theorem Ev.modk {k : Int} (hk : 0 < k) (h1 : Ev G F sh e1 (Pv (α := Int)) ti) : Ev G F sh (.bin m .Mod e1 (.int k)) (Pv (α := Int)) (ti.bind fun x => .ok (x % k)) := by
  have h := Ev.mod (m := m) h1 (Ev.int (G := G) (F := F) (sh := sh) k)
  have e : (fun x => modR x k) = fun x => Rs.ok (x % k) := funext fun x => gd_ok hk
  rwa [show (ti.bind fun x => (Rs.ok k).bind fun y => modR x y) = ti.bind fun x => modR x k from rfl, e] at h
theorem Ev.powk {i j v : Int} (h : CPow i j) (hv : i ^ j.toNat = v) : Ev G F sh (.bin m .Pow (.int i) (.int j)) (Pv (α := Int)) (.ok v) := by
  have q := Ev.pow (m := m) (Ev.int (G := G) (F := F) (sh := sh) i) (Ev.int (G := G) (F := F) (sh := sh) j)
  rwa [show ((Rs.ok i).bind fun x => (Rs.ok j).bind fun y => powR x y) = powR i j from rfl, show powR i j = .ok v by rw [← hv]; exact gd_ok h] at q
theorem Ev.neg (h1 : Ev G F sh e1 (Pv (α := Int)) ti) : Ev G F sh (.neg e1) (Pv (α := Int)) (ti.bind fun x => .ok (-x)) := by
  refine ev_one (f := fun x : Int => .ok (-x)) (op := fun x M Q => match x with | .int i => Q (.int (-i)) M | _ => False) (fun _ _ _ _ => rfl) ?_ h1
  rintro a _ dr M Q X rfl w
  exact w _ fun _ => rfl
theorem Ev.lt (h1 : Ev G F sh e1 (Pv (α := Int)) ti) (h2 : Ev G F sh e2 (Pv (α := Int)) tj) : Ev G F sh (.cmp .Lt e1 e2) (Pv (α := Bool)) (ti.bind fun x => tj.bind fun y => .ok (decide (x < y))) := by
  refine ev_two (f := fun x y : Int => .ok (decide (x < y))) (op := fun x y M Q => cmpD .Lt x y M Q) (fun _ _ _ _ => rfl) ?_ h1 h2
  rintro a b _ _ dr M Q X rfl rfl w; exact w _ fun _ => rfl
theorem Ev.le (h1 : Ev G F sh e1 (Pv (α := Int)) ti) (h2 : Ev G F sh e2 (Pv (α := Int)) tj) : Ev G F sh (.cmp .LtE e1 e2) (Pv (α := Bool)) (ti.bind fun x => tj.bind fun y => .ok (decide (x ≤ y))) := by
  refine ev_two (f := fun x y : Int => .ok (decide (x ≤ y))) (op := fun x y M Q => cmpD .LtE x y M Q) (fun _ _ _ _ => rfl) ?_ h1 h2
  rintro a b _ _ dr M Q X rfl rfl w; exact w _ fun _ => rfl
theorem Ev.gt (h1 : Ev G F sh e1 (Pv (α := Int)) ti) (h2 : Ev G F sh e2 (Pv (α := Int)) tj) : Ev G F sh (.cmp .Gt e1 e2) (Pv (α := Bool)) (ti.bind fun x => tj.bind fun y => .ok (decide (x > y))) := by
  refine ev_two (f := fun x y : Int => .ok (decide (x > y))) (op := fun x y M Q => cmpD .Gt x y M Q) (fun _ _ _ _ => rfl) ?_ h1 h2
  rintro a b _ _ dr M Q X rfl rfl w; exact w _ fun _ => rfl
theorem Ev.ge (h1 : Ev G F sh e1 (Pv (α := Int)) ti) (h2 : Ev G F sh e2 (Pv (α := Int)) tj) : Ev G F sh (.cmp .GtE e1 e2) (Pv (α := Bool)) (ti.bind fun x => tj.bind fun y => .ok (decide (x ≥ y))) := by
  refine ev_two (f := fun x y : Int => .ok (decide (x ≥ y))) (op := fun x y M Q => cmpD .GtE x y M Q) (fun _ _ _ _ => rfl) ?_ h1 h2
  rintro a b _ _ dr M Q X rfl rfl w; exact w _ fun _ => rfl
/-! ### equality -/
theorem py_at [Tc α] [Py α] {M : Mp} (a : α) : pyOf M (Tc.d a) = some (Py.py a) := pyOf_of (Py.f a)
theorem Ev.eq [Tc α] [Py α] [DecidableEq α] {t1 t2 : Rs α} (hd : Py.dep α ≤ 64) (h1 : Ev G F sh e1 (Pv (α := α)) t1) (h2 : Ev G F sh e2 (Pv (α := α)) t2) : Ev G F sh (.cmp .Eq e1 e2) (Pv (α := Bool)) (t1.bind fun x => t2.bind fun y => .ok (decide (x = y))) := by
  refine ev_two (f := fun x y : α => .ok (decide (x = y))) (op := fun x y M Q => cmpD .Eq x y M Q) (fun _ _ _ _ => rfl) ?_ h1 h2
  rintro a b _ _ dr M Q X rfl rfl w
  show cmpD .Eq _ _ M Q
  unfold cmpD
  rw [py_at, py_at]
  exact ⟨shaped_py hd a, shaped_py hd b, w _ fun _ => by rw [eqv_py]; rfl⟩
theorem Ev.ne [Tc α] [Py α] [DecidableEq α] {t1 t2 : Rs α} (hd : Py.dep α ≤ 64) (h1 : Ev G F sh e1 (Pv (α := α)) t1) (h2 : Ev G F sh e2 (Pv (α := α)) t2) : Ev G F sh (.cmp .NotEq e1 e2) (Pv (α := Bool)) (t1.bind fun x => t2.bind fun y => .ok (!decide (x = y))) := by
  refine ev_two (f := fun x y : α => .ok (!decide (x = y))) (op := fun x y M Q => cmpD .NotEq x y M Q) (fun _ _ _ _ => rfl) ?_ h1 h2
  rintro a b _ _ dr M Q X rfl rfl w
  show cmpD .NotEq _ _ M Q
  unfold cmpD
  rw [py_at, py_at]
  exact ⟨shaped_py hd a, shaped_py hd b, w _ fun _ => by rw [eqv_py]; rfl⟩
theorem isN_d [Tc α] [Py α] [PyN α] (a : α) : isN (Tc.d a) = false := by
  have h := Py.f a
  have n := (PyN.nn a).1
  cases e : Tc.d a with
  | non => rw [e, pyF] at h; rw [← Option.some.inj h] at n; simp [PyData.eqv] at n
  | _ => rfl
theorem Ev.isNone [Tc α] [Py α] [PyN α] {t : Rs (Option α)} (h : Ev G F sh e (Pv (α := Option α)) t) : Ev G F sh (.cmp .Is e .non) (Pv (α := Bool)) (t.bind fun x => .ok x.isNone) := by
  have q := ev_two (f := fun (x : Option α) (y : Unit) => .ok x.isNone) (P3 := Pv (α := Bool)) (e' := .cmp .Is e .non) (op := fun x y M Q => cmpD .Is x y M Q) (fun _ _ _ _ => rfl) (by
    rintro a b _ _ dr M Q X rfl rfl w
    refine ⟨rfl, w _ fun _ => ?_⟩
    cases a with
    | none => rfl
    | some a => show D.bl (isN (Tc.d a)) = _; rw [isN_d]; rfl) h Ev.nonU
  exact q
theorem Ev.notNone [Tc α] [Py α] [PyN α] {t : Rs (Option α)} (h : Ev G F sh e (Pv (α := Option α)) t) : Ev G F sh (.cmp .IsNot e .non) (Pv (α := Bool)) (t.bind fun x => .ok (!x.isNone)) := by
  have q := ev_two (f := fun (x : Option α) (y : Unit) => .ok (!x.isNone)) (P3 := Pv (α := Bool)) (e' := .cmp .IsNot e .non) (op := fun x y M Q => cmpD .IsNot x y M Q) (fun _ _ _ _ => rfl) (by
    rintro a b _ _ dr M Q X rfl rfl w
    refine ⟨rfl, w _ fun _ => ?_⟩
    cases a with
    | none => rfl
    | some a => show D.bl (!isN (Tc.d a)) = _; rw [isN_d]; rfl) h Ev.nonU
  exact q
theorem Ev.isNoneD {t : Rs D} (h : Ev G F sh e (Pv (α := D)) t) : Ev G F sh (.cmp .Is e .non) (Pv (α := Bool)) (t.bind fun x => .ok (isN x)) :=
  ev_two (f := fun (x : D) (y : Unit) => .ok (isN x)) (P3 := Pv (α := Bool)) (e' := .cmp .Is e .non) (op := fun x y M Q => cmpD .Is x y M Q) (fun _ _ _ _ => rfl) (by
    rintro a b _ _ dr M Q X rfl rfl w
    exact ⟨rfl, w _ fun _ => rfl⟩) h Ev.nonU
theorem Ev.notNoneD {t : Rs D} (h : Ev G F sh e (Pv (α := D)) t) : Ev G F sh (.cmp .IsNot e .non) (Pv (α := Bool)) (t.bind fun x => .ok (!isN x)) :=
  ev_two (f := fun (x : D) (y : Unit) => .ok (!isN x)) (P3 := Pv (α := Bool)) (e' := .cmp .IsNot e .non) (op := fun x y M Q => cmpD .IsNot x y M Q) (fun _ _ _ _ => rfl) (by
    rintro a b _ _ dr M Q X rfl rfl w
    exact ⟨rfl, w _ fun _ => rfl⟩) h Ev.nonU
theorem any_py [Tc α] [Py α] [DecidableEq α] (a : α) (l : List α) : ((l.map Py.py).any fun z => PyData.eqv z (Py.py a)) = decide (a ∈ l) := by
  rw [List.any_map, Bool.eq_iff_iff, List.any_eq_true, decide_eq_true_eq]
  constructor
  · rintro ⟨x, hx, h⟩
    have : PyData.eqv (Py.py x) (Py.py a) = true := h
    rw [(Py.eq x a).mp this] at hx; exact hx
  · intro h; exact ⟨a, h, (Py.eq a a).mpr rfl⟩
theorem shaped_tup [Tc α] [Py α] (hd : Py.dep α < 64) (l : List α) : SeqAt.shaped (.tuple (l.map Py.py)) = true := shaped_py (α := List α) hd l
theorem shaped_lst [Tc α] [Py α] (hd : Py.dep α < 64) (l : List α) : SeqAt.shaped (.list (l.map Py.py)) = true := shaped_py (α := Li α) hd ⟨l⟩
theorem inD_of [Tc α] [Py α] [DecidableEq α] (hd : Py.dep α < 64) {a : α} {l : List α} {y : D} {M : Mp} {Q : Bool → Mp → Prop} (h : sqOf M y = some (l.map Tc.d)) (q : Q (decide (a ∈ l)) M) : inD (Tc.d a) y M Q := by
  have key : (match pyFs (l.map Tc.d), pyF (Tc.d a) with
      | some es, some d => SeqAt.shaped d = true ∧ SeqAt.shaped (.list es) = true ∧ Q (es.any fun z => PyData.eqv z d) M
      | _, _ => False) := by
    rw [pys_map, Py.f]
    exact ⟨shaped_py (Nat.le_of_lt hd) a, shaped_lst hd l, by rw [any_py]; exact q⟩
  cases y with
  | tup ds =>
    cases h
    unfold inD
    simp only [pys_map, Py.f]
    exact ⟨shaped_py (Nat.le_of_lt hd) a, shaped_tup hd l, by rw [any_py]; exact q⟩
  | lst ds => cases h; exact key
  | frl ds => cases h; exact key
  | ref p =>
    have h' : lsOf M (.ref p) = some (l.map Tc.d) := h
    unfold inD
    simp only [h']
    exact key
  | _ => cases h
theorem Ev.inS [Tc α] [Py α] [DecidableEq α] {t1 : Rs α} {t2 : Rs (List α)} (hd : Py.dep α < 64) (h1 : Ev G F sh e1 (Pv (α := α)) t1) (h2 : Ev G F sh e2 (Ps (α := α)) t2) : Ev G F sh (.cmp .In e1 e2) (Pv (α := Bool)) (t1.bind fun x => t2.bind fun y => .ok (decide (x ∈ y))) := by
  refine ev_cmp (fun (x : α) (y : List α) => decide (x ∈ y)) ?_ h1 h2
  rintro a b _ y dr M Q rfl h w
  exact inD_of (Q := fun z => Q (.bl z)) hd h w
theorem Ev.notInS [Tc α] [Py α] [DecidableEq α] {t1 : Rs α} {t2 : Rs (List α)} (hd : Py.dep α < 64) (h1 : Ev G F sh e1 (Pv (α := α)) t1) (h2 : Ev G F sh e2 (Ps (α := α)) t2) : Ev G F sh (.cmp .NotIn e1 e2) (Pv (α := Bool)) (t1.bind fun x => t2.bind fun y => .ok (!decide (x ∈ y))) := by
  refine ev_cmp (fun (x : α) (y : List α) => !decide (x ∈ y)) ?_ h1 h2
  rintro a b _ y dr M Q rfl h w
  exact inD_of (Q := fun z => Q (.bl (!z))) hd h w
section
variable {κ : Type} [DecidableEq κ] [Tc κ] [Kc κ] [Tc α] {tk : Rs κ} {td : Rs (List (κ × α))}
theorem ls_dc {l : List (Key × D)} {y : D} {M : Mp} (h : dcOf M y = some l) : lsOf M y = none ∧ sqOf M y = none := by
  cases y with
  | ref a =>
    have h' : (match M a with | some (.dic ds) => some ds | _ => none) = some l := h
    have q : lsOf M (.ref a) = none := by
      show (match M a with | some (.lst ds) => some ds | _ => none) = none
      cases e : M a with
      | none => rfl
      | some o => cases o <;> first | rfl | (rw [e] at h'; cases h')
    exact ⟨q, q⟩
  | _ => first | exact ⟨rfl, rfl⟩ | cases h
theorem inD_dic {k : κ} {l : List (κ × α)} {y : D} {M : Mp} {Q : Bool → Mp → Prop} (h : dcOf M y = some (l.map kvD)) (q : Q (dhas l k) M) : inD (Tc.d k) y M Q := by
  have h1 := (ls_dc h).1
  have key : (match lsOf M y with
    | some ys => match pyFs ys, pyF (Tc.d k) with
      | some es, some d => SeqAt.shaped d = true ∧ SeqAt.shaped (.list es) = true ∧ Q (es.any fun z => PyData.eqv z d) M
      | _, _ => False
    | none => match dcOf M y, keyD (Tc.d k) with
      | some kvs, some k => Q (valD kvs k).isSome M
      | _, _ => False) := by
    rw [h1, h]
    simp only [Kc.kd, has_map]
    exact q
  cases y with
  | dic ds => exact key
  | ref a => exact key
  | _ => cases h
theorem Ev.inD (h1 : Ev G F sh e1 (Pv (α := κ)) tk) (h2 : Ev G F sh e2 (Pk (κ := κ) (α := α)) td) : Ev G F sh (.cmp .In e1 e2) (Pv (α := Bool)) (tk.bind fun x => td.bind fun y => .ok (dhas y x)) := by
  refine ev_cmp (fun (x : κ) (y : List (κ × α)) => dhas y x) ?_ h1 h2
  rintro a b _ y dr M Q rfl h w
  exact inD_dic (Q := fun z => Q (.bl z)) h w
theorem Ev.notInD (h1 : Ev G F sh e1 (Pv (α := κ)) tk) (h2 : Ev G F sh e2 (Pk (κ := κ) (α := α)) td) : Ev G F sh (.cmp .NotIn e1 e2) (Pv (α := Bool)) (tk.bind fun x => td.bind fun y => .ok (!dhas y x)) := by
  refine ev_cmp (fun (x : κ) (y : List (κ × α)) => !dhas y x) ?_ h1 h2
  rintro a b _ y dr M Q rfl h w
  exact inD_dic (Q := fun z => Q (.bl (!z))) h w
theorem ixD_dic {k : κ} {l : List (κ × α)} {y : D} {v : α} {M : Mp} {Q : QE} (h : dcOf M y = some (l.map kvD)) (e : dget l k = some v) (q : Q (Tc.d v) M) : ixD y (Tc.d k) M Q := by
  have h1 := (ls_dc h).2
  have key : (match sqOf M y with
    | some ds => match (Tc.d k : D) with
      | .int i => match L2.atI ds i with
        | some d => Q d M
        | none => False
      | _ => False
    | none => match dcOf M y, keyD (Tc.d k) with
      | some kvs, some k => match valD kvs k with
        | some d => Q d M
        | none => False
      | _, _ => False) := by
    rw [h1, h]
    simp only [Kc.kd, valD_map, e]
    exact q
  cases y with
  | dic ds => exact key
  | ref a => exact key
  | _ => cases h
/-- d[k] -/
theorem Ev.dix (h1 : Ev G F sh e1 (Pk (κ := κ) (α := α)) td) (h2 : Ev G F sh e2 (Pv (α := κ)) tk) : Ev G F sh (.ix e1 e2) (Pv (α := α)) (td.bind fun x => tk.bind fun y => dixR x y) := by
  refine ev_two (f := fun (x : List (κ × α)) (y : κ) => dixR x y) (op := fun x y M Q => ixD x y M Q) (fun _ _ _ _ => rfl) ?_ h1 h2
  rintro l k y _ dr M Q X h rfl w
  obtain ⟨v, e, q⟩ := of_wp w
  exact ixD_dic h e (q _ fun _ => rfl)
end
/-! ### tests joined -/
theorem Ev.and (h1 : Ev G F sh e1 (Pv (α := Bool)) tb) (h2 : Ev G F sh e2 (Pv (α := Bool)) tc) : Ev G F sh (.and e1 e2) (Pv (α := Bool)) (tb.bind fun x => if x then tc else .ok false) := by
  intro W ρ M Q r w
  unfold wpE
  refine h1 W ρ M _ r (Rs.wp_mono (fun a q x M1 r1 p1 => ?_) (fun _ q => q) (Rs.wp_bind.mp w))
  cases p1 M1 r1
  cases a with
  | true => exact h2 W ρ M1 _ r1 q
  | false => exact q _ _ r1 fun _ _ => rfl
theorem Ev.or (h1 : Ev G F sh e1 (Pv (α := Bool)) tb) (h2 : Ev G F sh e2 (Pv (α := Bool)) tc) : Ev G F sh (.or e1 e2) (Pv (α := Bool)) (tb.bind fun x => if x then .ok true else tc) := by
  intro W ρ M Q r w
  unfold wpE
  refine h1 W ρ M _ r (Rs.wp_mono (fun a q x M1 r1 p1 => ?_) (fun _ q => q) (Rs.wp_bind.mp w))
  cases p1 M1 r1
  cases a with
  | true => exact q _ _ r1 fun _ _ => rfl
  | false => exact h2 W ρ M1 _ r1 q
theorem Ev.andP {b c : Bool} (h1 : Ev G F sh e1 (Pv (α := Bool)) (.ok b)) (h2 : Ev G F sh e2 (Pv (α := Bool)) (.ok c)) : Ev G F sh (.and e1 e2) (Pv (α := Bool)) (.ok (b && c)) := by
  have h := Ev.and h1 h2
  cases b <;> exact h
theorem Ev.orP {b c : Bool} (h1 : Ev G F sh e1 (Pv (α := Bool)) (.ok b)) (h2 : Ev G F sh e2 (Pv (α := Bool)) (.ok c)) : Ev G F sh (.or e1 e2) (Pv (α := Bool)) (.ok (b || c)) := by
  have h := Ev.or h1 h2
  cases b <;> exact h
theorem Ev.not (h1 : Ev G F sh e1 (Pv (α := Bool)) tb) : Ev G F sh (.not e1) (Pv (α := Bool)) (tb.bind fun x => .ok (!x)) := by
  refine ev_one (f := fun x : Bool => .ok (!x)) (op := fun x M Q => match x with | .bl k => Q (.bl (!k)) M | _ => False) (fun _ _ _ _ => rfl) ?_ h1
  rintro a _ dr M Q X rfl w
  exact w _ fun _ => rfl
theorem Ev.ife {P : α → PP} {t1 t2 : Rs α} (hc : Ev G F sh e (Pv (α := Bool)) tc) (h1 : Ev G F sh e1 P t1) (h2 : Ev G F sh e2 P t2) : Ev G F sh (.ife e e1 e2) P (tc.bind fun x => if x then t1 else t2) := by
  intro W ρ M Q r w
  unfold wpE
  refine hc W ρ M _ r (Rs.wp_mono (fun a q x M1 r1 p1 => ?_) (fun _ q => q) (Rs.wp_bind.mp w))
  cases p1 M1 r1
  cases a with
  | true => exact h1 W ρ M1 _ r1 q
  | false => exact h2 W ρ M1 _ r1 q
theorem Ev.ifeP {P : α → PP} {b : Bool} {x y : α} (hc : Ev G F sh e (Pv (α := Bool)) (.ok b)) (h1 : Ev G F sh e1 P (.ok x)) (h2 : Ev G F sh e2 P (.ok y)) : Ev G F sh (.ife e e1 e2) P (.ok (if b then x else y)) := by
  have h := Ev.ife hc h1 h2
  cases b <;> exact h
end
end DS

/-! MR5: indices, fields, calls, built-in functions, comprehensions -/
namespace DS
open PySem PySem.Spec PyProof.Rows L2
section
variable {G : Gam} {F : Fr} {sh : List Sl} {α β γ δ : Type} {e e1 e2 e3 : E} {m : Bool} {ti tj : Rs Int}
theorem Ev.ix [Tc α] {t : Rs (List α)} (h1 : Ev G F sh e1 (Ps (α := α)) t) (h2 : Ev G F sh e2 (Pv (α := Int)) ti) : Ev G F sh (.ix e1 e2) (Pv (α := α)) (t.bind fun x => ti.bind fun y => ixR x y) := by
  refine ev_two (f := fun (x : List α) (y : Int) => ixR x y) (op := fun x y M Q => ixD x y M Q) (fun _ _ _ _ => rfl) ?_ h1 h2
  rintro l k y _ dr M Q X h rfl w
  obtain ⟨v, e, q⟩ := of_wp w
  exact ix_any h (by rw [atI_map, e]; rfl) (q _ fun _ => rfl)
/-- an item of a tuple of known form -/
def tupAt (d : D) (i : Int) : Option D := match d with
  | .tup ds => L2.atI ds i
  | _ => none
theorem Ev.pr [Tc α] [Tc β] {t : Rs α} {k : Int} (f : α → β) (hf : ∀ v, tupAt (Tc.d v) k = some (Tc.d (f v))) (h1 : Ev G F sh e1 (Pv (α := α)) t) : Ev G F sh (.ix e1 (.int k)) (Pv (α := β)) (t.bind fun x => .ok (f x)) := by
  have q := ev_two (f := fun (x : α) (y : Int) => if y = k then .ok (f x) else .no) (P3 := Pv (α := β)) (e' := .ix e1 (.int k)) (op := fun x y M Q => ixD x y M Q) (fun _ _ _ _ => rfl) (by
    rintro a b _ _ dr M Q X rfl rfl w
    by_cases hb : b = k
    · subst hb
      rw [if_pos rfl] at w
      have h := hf a
      cases e : Tc.d a with
      | tup ds => rw [e] at h; exact ix_any (ds := ds) rfl h (w _ fun _ => rfl)
      | _ => rw [e] at h; cases h
    · rw [if_neg hb] at w; exact w.elim) h1 (Ev.int (G := G) (F := F) (sh := sh) k)
  rwa [show (t.bind fun x => (Rs.ok k).bind fun y => if y = k then Rs.ok (f x) else .no) = t.bind fun x => .ok (f x) by
    congr 1; funext x; show (if k = k then _ else _) = _; rw [if_pos rfl]] at q
/-- plain data read by a number -/
def dIx (d : D) (i : Int) : Rs D := match d with
  | .str z => if z.length ≤ 16777216 then Rs.of ((L2.atI z.cps.toList i).map fun c => .str ⟨#[c]⟩) else .no
  | .tup ds => Rs.of (L2.atI ds i)
  | .lst ds => Rs.of (L2.atI ds i)
  | .frl ds => Rs.of (L2.atI ds i)
  | _ => .no
theorem Ev.ixDyn {t : Rs D} (h1 : Ev G F sh e1 (Pv (α := D)) t) (h2 : Ev G F sh e2 (Pv (α := Int)) ti) : Ev G F sh (.ix e1 e2) (Pv (α := D)) (t.bind fun x => ti.bind fun y => dIx x y) := by
  refine ev_two (f := fun (x : D) (y : Int) => dIx x y) (op := fun x y M Q => ixD x y M Q) (fun _ _ _ _ => rfl) ?_ h1 h2
  rintro d k x _ dr M Q X hx rfl w
  have hx : x = d := hx
  subst hx
  cases x with
  | str z =>
    unfold dIx at w
    simp only at w
    split at w
    · rename_i hz
      obtain ⟨v, e, q⟩ := of_wp w
      cases e2 : L2.atI z.cps.toList k with
      | none => rw [e2] at e; cases e
      | some c =>
        rw [e2] at e; cases e
        refine ⟨hz, ?_⟩
        rw [e2]
        exact q _ fun _ => rfl
    · exact w.elim
  | tup ds => obtain ⟨v, e, q⟩ := of_wp w; exact ix_any (ds := ds) rfl e (q _ fun _ => rfl)
  | lst ds => obtain ⟨v, e, q⟩ := of_wp w; exact ix_any (ds := ds) rfl e (q _ fun _ => rfl)
  | frl ds => obtain ⟨v, e, q⟩ := of_wp w; exact ix_any (ds := ds) rfl e (q _ fun _ => rfl)
  | _ => exact w.elim
/-! ### plain data as a Lean value -/
class Dn (α : Type) [Tc α] where
  dn : D → Option α
  ok : ∀ d a, dn d = some a → d = Tc.d a
instance : Dn Int := ⟨fun d => match d with | .int i => some i | _ => none, fun d a h => by cases d <;> first | (cases h; rfl) | cases h⟩
instance : Dn Bool := ⟨fun d => match d with | .bl i => some i | _ => none, fun d a h => by cases d <;> first | (cases h; rfl) | cases h⟩
instance : Dn (List D) := ⟨fun d => match d with | .tup i => some i | _ => none, fun d a h => by
  cases d <;> first | (cases h; show D.tup _ = D.tup (List.map id _); rw [List.map_id]) | cases h⟩
instance : Dn (Li D) := ⟨fun d => match d with | .lst i => some ⟨i⟩ | _ => none, fun d a h => by
  cases d <;> first | (cases h; show D.lst _ = D.lst (List.map id _); rw [List.map_id]) | cases h⟩
theorem Ev.down [Tc α] [Dn α] {t : Rs D} (h : Ev G F sh e (Pv (α := D)) t) : Ev G F sh e (Pv (α := α)) (t.bind fun d => Rs.of (Dn.dn d)) := by
  intro W ρ M Q r w
  refine h W ρ M Q r (Rs.wp_mono (fun v q x M' r' p => ?_) (fun _ q => q) (Rs.wp_bind.mp w))
  obtain ⟨a, e, q⟩ := of_wp q
  exact q x M' r' fun M'' r'' => (p M'' r'').trans (Dn.ok v a e)
/-! ### slices -/
theorem EvO.none : EvO G F sh .none (.ok none) := fun W ρ M Q r w => by unfold wpO; exact w M r
theorem EvO.some (h : Ev G F sh e (Pv (α := Int)) ti) : EvO G F sh (.some e) (ti.bind fun i => .ok (Option.some i)) := by
  intro W ρ M Q r w
  unfold wpO
  refine h W ρ M _ r (Rs.wp_mono (fun v q x M' r' p => ?_) (fun _ q => q) (Rs.wp_bind.mp w))
  cases p M' r'
  exact q M' r'
theorem cutD_map {f : α → β} (l : List α) (lo hi : Option Int) : cutD (l.map f) lo hi = (cutD l lo hi).map f := by
  unfold cutD
  rw [List.length_map, List.map_take, List.map_drop]
theorem ev_sl {P : α → PP} {P' : β → PP} {t : Rs α} {lo hi : EO} {tl th : Rs (Option Int)} (f : α → Option Int → Option Int → Rs β)
    (hop : ∀ a l h x dr M Q X, P a dr M x → (f a l h).wp (fun v => ∀ z, (∀ M'', P' v dr M'' z) → Q z M) X → slD m x l h M Q)
    (h1 : Ev G F sh e P t) (h2 : EvO G F sh lo tl) (h3 : EvO G F sh hi th) : Ev G F sh (.sl m e lo hi) P' (t.bind fun x => tl.bind fun l => th.bind fun h => f x l h) := by
  intro W ρ M Q r w
  unfold wpE
  refine h1 W ρ M _ r (Rs.wp_mono (fun a q x M1 r1 p1 => ?_) (fun _ q => q) (Rs.wp_bind.mp w))
  refine h2 W ρ M1 _ r1 (Rs.wp_mono (fun l q M2 r2 => ?_) (fun _ q => q) (Rs.wp_bind.mp q))
  refine h3 W ρ M2 _ r2 (Rs.wp_mono (fun h q M3 r3 => ?_) (fun _ q => q) (Rs.wp_bind.mp q))
  refine hop a l h x F.dr M3 Q _ (p1 M3 r3) (Rs.wp_mono (fun v q z hz => ?_) (fun _ q => q) q)
  exact q z M3 r3 fun M'' _ => hz M''
theorem Ev.slT [Tc α] {t : Rs (List α)} {lo hi : EO} {tl th : Rs (Option Int)} (h1 : Ev G F sh e (Pv (α := List α)) t) (h2 : EvO G F sh lo tl) (h3 : EvO G F sh hi th) : Ev G F sh (.sl m e lo hi) (Pv (α := List α)) (t.bind fun x => tl.bind fun l => th.bind fun h => .ok (cutD x l h)) := by
  refine ev_sl (fun x l h => .ok (cutD x l h)) ?_ h1 h2 h3
  rintro a l h _ dr M Q X rfl w
  exact w _ fun _ => by show D.tup _ = D.tup _; rw [cutD_map]
theorem Ev.slL [Tc α] {t : Rs (List α)} {lo hi : EO} {tl th : Rs (Option Int)} (h1 : Ev G F sh e (Pl (α := α)) t) (h2 : EvO G F sh lo tl) (h3 : EvO G F sh hi th) : Ev G F sh (.sl false e lo hi) (Pv (α := Li α)) (t.bind fun x => tl.bind fun l => th.bind fun h => .ok ⟨cutD x l h⟩) := by
  refine ev_sl (β := Li α) (fun x l h => .ok ⟨cutD x l h⟩) ?_ h1 h2 h3
  intro a l h x dr M Q X p w
  have q : Q (.lst (cutD (a.map Tc.d) l h)) M := w _ fun _ => by show D.lst _ = D.lst _; rw [cutD_map]
  have p : lsOf M x = some (a.map Tc.d) := p
  have key : (match lsOf M x with | some ds => newL false (cutD ds l h) M Q | none => False) := by rw [p]; exact q
  cases x <;> first | exact key | cases p
/-- the written part of a slice -/
theorem EvO.k (k : Int) : EvO G F sh (.some (.int k)) (.ok (Option.some k)) := EvO.some (Ev.int k)
/-! ### fields -/
def fldD (d : D) (f : Str) : Option (Str × D) := match d with
  | .ins c fs => match fs.lookup f with
    | some x => some (c, x)
    | none => none
  | _ => none
theorem Ev.fld [Tc α] [Tc β] {t : Rs α} {f : Str} {c : Str} (g : α → β) (hf : ∀ v, fldD (Tc.d v) f = some (c, Tc.d (g v))) (hG : (c, f) ∈ G.fl) (h1 : Ev G F sh e (Pv (α := α)) t) : Ev G F sh (.fld e f) (Pv (α := β)) (t.bind fun x => .ok (g x)) := by
  refine ev_one (f := fun x : α => .ok (g x)) (op := fun x M1 Q => match flds M1 x with
    | some (c, fs) => (c, f) ∈ G.fl ∧ match fs.lookup f with
      | some d => Q d M1
      | none => False
    | none => False) (fun _ _ _ _ => rfl) ?_ h1
  rintro a _ dr M Q X rfl w
  have h := hf a
  unfold fldD at h
  cases ea : Tc.d a with
  | ins k fs =>
    rw [ea] at h
    simp only at h
    show (k, f) ∈ G.fl ∧ match fs.lookup f with
      | some d => Q d M
      | none => False
    cases e2 : fs.lookup f with
    | none => rw [e2] at h; cases h
    | some x =>
      rw [e2] at h; cases h
      exact ⟨hG, w _ fun _ => rfl⟩
  | _ => rw [ea] at h; cases h
/-- a field of an object that is looked at -/
def Pf [Tc α] (c f : Str) (v : α) : PP := fun _ M x => ∃ fs, flds M x = some (c, fs) ∧ fs.lookup f = some (Tc.d v)
theorem Ev.fldO [Tc α] {t : Rs α} {f : Str} {c : Str} (hG : (c, f) ∈ G.fl) (h1 : Ev G F sh e (Pf (α := α) c f) t) : Ev G F sh (.fld e f) (Pv (α := α)) t := by
  have q := ev_one (f := fun x : α => .ok x) (P3 := Pv (α := α)) (e' := .fld e f) (op := fun x M1 Q => match flds M1 x with
    | some (c, fs) => (c, f) ∈ G.fl ∧ match fs.lookup f with
      | some d => Q d M1
      | none => False
    | none => False) (fun _ _ _ _ => rfl) (by
      rintro a x dr M Q X ⟨fs, h1, h2⟩ w
      show (match flds M x with
        | some (c, fs) => (c, f) ∈ G.fl ∧ match fs.lookup f with
          | some d => Q d M
          | none => False
        | none => False)
      rw [h1]
      simp only [h2]
      exact ⟨hG, w _ fun _ => rfl⟩) h1
  rwa [show (t.bind fun x => .ok x) = t from Rs.bind_ok t] at q
/-! ### arguments -/
/-- what may be handed in, and what is told of it -/
class Ar (α : Type) where
  P : α → PP
instance {α : Type} [Tc α] : Ar α := ⟨Pv⟩
/-- the law's draws -/
inductive Drw where
  | mk
instance : Ar Drw := ⟨fun _ dr _ x => ∃ a, dr = some (a, none) ∧ x = .ref a⟩
inductive Drt where
  | mk
instance : Ar Drt := ⟨fun _ dr _ x => ∃ a c, dr = some (a, some c) ∧ x = .ref a⟩
class Arg (A : Type) where
  len : Nat
  P : A → Dw → Mp → List D → Prop
  n : ∀ a dr M ds, P a dr M ds → ds.length = len
  sh : A → List Sl
  st : ∀ a (F : Fr) ds, (∀ M', FrOk F M' → P a F.dr M' ds) → ∀ i s, nth (sh a) i = some s → ∃ P x, s = .ar P ∧ nth ds i = some x ∧ ∀ M', FrOk F M' → P F.dr M' x
instance : Arg Unit := ⟨0, fun _ _ _ ds => ds = [], fun _ _ _ _ h => by rw [h]; rfl, fun _ => [], fun _ _ _ _ i s h => by cases i <;> cases h⟩
instance {α A : Type} [Ar α] [Arg A] : Arg (α × A) := ⟨Arg.len A + 1, fun p dr M ds => match ds with
    | x :: r => Ar.P p.1 dr M x ∧ Arg.P p.2 dr M r
    | [] => False, fun a dr M ds h => by
      cases ds with
      | nil => exact h.elim
      | cons x r => show r.length + 1 = _; rw [Arg.n a.2 dr M r h.2], fun p => .ar (Ar.P p.1) :: Arg.sh p.2, fun a F ds h i s e => by
      cases ds with
      | nil => exact (h F.M0 .refl).elim
      | cons x r =>
        cases i with
        | zero => cases e; exact ⟨_, x, rfl, rfl, fun M' q => (h M' q).1⟩
        | succ i => exact Arg.st a.2 F r (fun M' q => (h M' q).2) i s e⟩
theorem EvL.nil : EvL G F sh .nil (Arg.P (A := Unit)) (.ok ()) := fun W ρ M Q r w => by unfold wpL; exact w [] M r fun _ _ => rfl
theorem EvL.cons {A : Type} [Ar α] [Arg A] {es : EL} {t : Rs α} {ts : Rs A} (h : Ev G F sh e (Ar.P (α := α)) t) (hs : EvL G F sh es (Arg.P (A := A)) ts) : EvL G F sh (.cons e es) (Arg.P (A := α × A)) (t.bind fun x => ts.bind fun y => .ok (x, y)) := by
  intro W ρ M Q r w
  unfold wpL
  refine h W ρ M _ r (Rs.wp_mono (fun a q x M1 r1 p1 => ?_) (fun _ q => q) (Rs.wp_bind.mp w))
  refine hs W ρ M1 _ r1 (Rs.wp_mono (fun b q y M2 r2 p2 => ?_) (fun _ q => q) (Rs.wp_bind.mp q))
  exact q (x :: y) M2 r2 fun M'' r'' => ⟨p1 M'' r'', p2 M'' r''⟩
/-- a def's promise: it gives what t tells -/
def sp {A β : Type} [Arg A] [Tc β] (t : A → Rs β) : SpD := fun ds M R RX => ∃ (dr : Dw) (a : A), DrOk dr M ∧ (∀ M', MLe dr [] M M' → Arg.P a dr M' ds) ∧
  (t a).wp (fun v => ∀ M', MLe dr [] M M' → R (Tc.d v) M') (fun x => ∀ M', MLe dr [] M M' → RX x M')
/-- .. a new object that may be changed -/
def spM {A β : Type} [Arg A] (o : β → MO) (t : A → Rs β) : SpD := fun ds M R RX => ∃ (dr : Dw) (a : A), DrOk dr M ∧ (∀ M', MLe dr [] M M' → Arg.P a dr M' ds) ∧
  (t a).wp (fun v => ∀ p M', MLe dr [] M M' → M' p = none → R (.ref p) (mset M' p (o v))) (fun x => ∀ M', MLe dr [] M M' → RX x M')
theorem drIn {ρ : Env1} {M : Mp} (r : Rel F sh ρ M) : DrOk F.dr M := r.fr.draw r.d0
theorem Ev.call {A : Type} [Arg A] [Tc β] {k : Nat} {es : EL} {t : A → Rs β} {ts : Rs A} (hG : nth G.fn k = some (Arg.len A, sp t)) (hs : EvL G F sh es (Arg.P (A := A)) ts) : Ev G F sh (.call k es) (Pv (α := β)) (ts.bind t) := by
  intro W ρ M Q r w
  unfold wpE
  rw [hG]
  refine hs W ρ M _ r (Rs.wp_mono (fun a q xs M1 r1 p1 => ?_) (fun _ q => q) (Rs.wp_bind.mp w))
  refine ⟨Arg.n a F.dr M1 xs (p1 M1 r1), F.dr, a, drIn r1, fun M' h => p1 M' (r1.mono h), Rs.wp_mono (fun v q M' h => ?_) (fun x q M' h => q M' (r1.mono h)) q⟩
  exact q _ M' (r1.mono h) fun _ _ => rfl
theorem Ev.meth {A : Type} [Ar α] [Arg A] [Tc β] {k : Nat} {c f : Str} {es : EL} {ta : Rs α} {t : α × A → Rs β} {ts : Rs A} (hG : nth G.mt k = some (c, f, Arg.len A + 1, sp t))
    (ho : ∀ (v : α) dr M x, Ar.P v dr M x → ∃ fs, flds M x = some (c, fs) ∧ fs.lookup f = none)
    (h1 : Ev G F sh e (Ar.P (α := α)) ta) (hs : EvL G F sh es (Arg.P (A := A)) ts) : Ev G F sh (.meth k e es) (Pv (α := β)) (ta.bind fun x => ts.bind fun y => t (x, y)) := by
  intro W ρ M Q r w
  unfold wpE
  rw [hG]
  refine h1 W ρ M _ r (Rs.wp_mono (fun v q x M1 r1 p1 => ?_) (fun _ q => q) (Rs.wp_bind.mp w))
  obtain ⟨fs, q1, q2⟩ := ho v F.dr M1 x (p1 M1 r1)
  rw [q1]
  refine ⟨rfl, q2, hs W ρ M1 _ r1 (Rs.wp_mono (fun a q xs M2 r2 p2 => ?_) (fun _ q => q) (Rs.wp_bind.mp q))⟩
  refine ⟨by rw [Arg.n a F.dr M2 xs (p2 M2 r2)], F.dr, (v, a), drIn r2, fun M' h => ⟨p1 M' (r2.mono h), p2 M' (r2.mono h)⟩, Rs.wp_mono (fun v q M' h => ?_) (fun x q M' h => q M' (r2.mono h)) q⟩
  exact q _ M' (r2.mono h) fun _ _ => rfl
end
end DS

/-! MR6: built-in functions, targets, iterables, comprehensions -/
namespace DS
open PySem PySem.Spec PyProof.Rows L2
section
variable {G : Gam} {F : Fr} {sh : List Sl} {α β γ δ : Type} {e e1 e2 e3 : E} {m : Bool} {ti tj : Rs Int}
/-- one argument, then a step -/
theorem ev_l1 {P : α → PP} {P' : β → PP} {t : Rs α} {e' : E} {op : List D → Mp → QE → Prop} (f : α → Rs β)
    (hw : ∀ W ρ M Q, wpE G W e' ρ M Q = wpE G W e ρ M fun x M1 => op [x] M1 Q)
    (hop : ∀ a x dr M Q X, P a dr M x → (f a).wp (fun v => ∀ z, (∀ M'', P' v dr M'' z) → Q z M) X → op [x] M Q)
    (h : Ev G F sh e P t) : Ev G F sh e' P' (t.bind f) := ev_one (op := fun x M Q => op [x] M Q) hw hop h
theorem sq_len {M : Mp} {x : D} {ds : List D} {Q : QE} (h : sqOf M x = some ds) (q : Q (.int ds.length) M) : bltD m .len [x] M Q := by
  have key : (match sqOf M x with
      | some ds => ds.length ≤ sizeLine → Q (.int ds.length) M
      | none => match dcOf M x with
        | some kvs => Q (.int kvs.length) M
        | none => False) := by rw [h]; exact fun _ => q
  cases x <;> first | exact key | cases h
theorem Ev.len [Tc α] {t : Rs (List α)} (h : Ev G F sh e (Ps (α := α)) t) : Ev G F sh (.blt m .len (.cons e .nil)) (Pv (α := Int)) (t.bind fun l => .ok (l.length : Int)) := by
  refine ev_l1 (op := fun ds M Q => bltD m .len ds M Q) (fun l : List α => .ok (l.length : Int)) (fun _ _ _ _ => rfl) ?_ h
  intro l x dr M Q X p w
  exact sq_len p (by rw [List.length_map]; exact w _ fun _ => rfl)
theorem Ev.lenD {κ : Type} [DecidableEq κ] [Tc κ] [Kc κ] [Tc α] {t : Rs (List (κ × α))} (h : Ev G F sh e (Pk (κ := κ) (α := α)) t) : Ev G F sh (.blt m .len (.cons e .nil)) (Pv (α := Int)) (t.bind fun l => .ok (l.length : Int)) := by
  refine ev_l1 (op := fun ds M Q => bltD m .len ds M Q) (fun l : List (κ × α) => .ok (l.length : Int)) (fun _ _ _ _ => rfl) ?_ h
  intro l x dr M Q X p w
  have p : dcOf M x = some (l.map kvD) := p
  have h1 := (ls_dc p).2
  have key : (match sqOf M x with
      | some ds => ds.length ≤ sizeLine → Q (.int ds.length) M
      | none => match dcOf M x with
        | some kvs => Q (.int kvs.length) M
        | none => False) := by rw [h1, p]; show Q (.int (l.map kvD).length) M; rw [List.length_map]; exact w _ fun _ => rfl
  cases x <;> first | exact key | cases p
def strLen (s : String) : Rs Int := gd (s.length ≤ 16777216) (s.length : Int)
theorem Ev.lenS {t : Rs String} (h : Ev G F sh e (Pv (α := String)) t) : Ev G F sh (.blt m .len (.cons e .nil)) (Pv (α := Int)) (t.bind strLen) := by
  refine ev_l1 (op := fun ds M Q => bltD m .len ds M Q) strLen (fun _ _ _ _ => rfl) ?_ h
  rintro l _ dr M Q X rfl w
  obtain ⟨h1, q⟩ := gd_wp w
  have h2 := sd_length l
  exact ⟨by rw [h2]; exact h1, by rw [h2]; exact q _ fun _ => rfl⟩
def dLen (d : D) : Rs Int := match d with
  | .str z => if z.length ≤ 16777216 then .ok (z.length : Int) else .no
  | .tup ds => .ok (ds.length : Int)
  | .lst ds => .ok (ds.length : Int)
  | .frl ds => .ok (ds.length : Int)
  | .dic ds => .ok (ds.length : Int)
  | _ => .no
theorem Ev.lenDyn {t : Rs D} (h : Ev G F sh e (Pv (α := D)) t) : Ev G F sh (.blt m .len (.cons e .nil)) (Pv (α := Int)) (t.bind dLen) := by
  refine ev_l1 (op := fun ds M Q => bltD m .len ds M Q) dLen (fun _ _ _ _ => rfl) ?_ h
  intro d x dr M Q X hx w
  have hx : x = d := hx
  subst hx
  cases x with
  | str z =>
    unfold dLen at w
    simp only at w
    split at w
    · rename_i hz; exact ⟨hz, w _ fun _ => rfl⟩
    · exact w.elim
  | tup ds => exact fun _ => w _ fun _ => rfl
  | lst ds => exact fun _ => w _ fun _ => rfl
  | frl ds => exact fun _ => w _ fun _ => rfl
  | dic ds => exact w _ fun _ => rfl
  | _ => exact w.elim
theorem Ev.all {t : Rs (List Bool)} (h : Ev G F sh e (Pl (α := Bool)) t) : Ev G F sh (.blt m .all (.cons e .nil)) (Pv (α := Bool)) (t.bind fun l => .ok (l.all id)) := by
  refine ev_l1 (op := fun ds M Q => bltD m .all ds M Q) (fun l : List Bool => .ok (l.all id)) (fun _ _ _ _ => rfl) ?_ h
  intro l x dr M Q X p w
  have p : lsOf M x = some (l.map D.bl) := p
  show (match lsOf M x with | some ds => (match blsOf ds with | some bs => Q (.bl (bs.all id)) M | none => False) | none => False)
  rw [p]; simp only [blsOf_map]
  exact w _ fun _ => rfl
theorem Ev.any {t : Rs (List Bool)} (h : Ev G F sh e (Pl (α := Bool)) t) : Ev G F sh (.blt m .any (.cons e .nil)) (Pv (α := Bool)) (t.bind fun l => .ok (l.any id)) := by
  refine ev_l1 (op := fun ds M Q => bltD m .any ds M Q) (fun l : List Bool => .ok (l.any id)) (fun _ _ _ _ => rfl) ?_ h
  intro l x dr M Q X p w
  have p : lsOf M x = some (l.map D.bl) := p
  show (match lsOf M x with | some ds => (match blsOf ds with | some bs => Q (.bl (bs.any id)) M | none => False) | none => False)
  rw [p]; simp only [blsOf_map]
  exact w _ fun _ => rfl
theorem Ev.sum {t : Rs (List Int)} (h : Ev G F sh e (Pl (α := Int)) t) : Ev G F sh (.blt m .sum (.cons e .nil)) (Pv (α := Int)) (t.bind fun l => .ok l.sum) := by
  refine ev_l1 (op := fun ds M Q => bltD m .sum ds M Q) (fun l : List Int => .ok l.sum) (fun _ _ _ _ => rfl) ?_ h
  intro l x dr M Q X p w
  have p : lsOf M x = some (l.map D.int) := p
  show (match lsOf M x with | some ds => (match intsOf ds with | some bs => Q (.int bs.sum) M | none => False) | none => False)
  rw [p]; simp only [intsOf_map]
  exact w _ fun _ => rfl
def maxI (x y : Int) : Int := if y > x then y else x
def minI (x y : Int) : Int := if y < x then y else x
theorem maxI_eq (x y : Int) : maxI x y = max x y := by unfold maxI; split <;> omega
theorem minI_eq (x y : Int) : minI x y = min x y := by unfold minI; split <;> omega
theorem ev_blt2 [Tc γ] {f : BF} (g : Int → Int → γ) (hop : ∀ i j M Q, Q (Tc.d (g i j)) M → bltD m f [.int i, .int j] M Q)
    (h1 : Ev G F sh e1 (Pv (α := Int)) ti) (h2 : Ev G F sh e2 (Pv (α := Int)) tj) : Ev G F sh (.blt m f (.cons e1 (.cons e2 .nil))) (Pv (α := γ)) (ti.bind fun x => tj.bind fun y => .ok (g x y)) := by
  refine ev_two (f := fun x y => .ok (g x y)) (op := fun x y M Q => bltD m f [x, y] M Q) (fun _ _ _ _ => rfl) ?_ h1 h2
  rintro i j _ _ dr M Q X rfl rfl w
  exact hop i j M Q (w _ fun _ => rfl)
theorem Ev.max2 (h1 : Ev G F sh e1 (Pv (α := Int)) ti) (h2 : Ev G F sh e2 (Pv (α := Int)) tj) : Ev G F sh (.blt m .max (.cons e1 (.cons e2 .nil))) (Pv (α := Int)) (ti.bind fun x => tj.bind fun y => .ok (maxI x y)) := ev_blt2 maxI (fun _ _ _ _ q => q) h1 h2
theorem Ev.min2 (h1 : Ev G F sh e1 (Pv (α := Int)) ti) (h2 : Ev G F sh e2 (Pv (α := Int)) tj) : Ev G F sh (.blt m .min (.cons e1 (.cons e2 .nil))) (Pv (α := Int)) (ti.bind fun x => tj.bind fun y => .ok (minI x y)) := ev_blt2 minI (fun _ _ _ _ q => q) h1 h2
def maxL : List Int → Option Int
  | [] => none
  | x :: xs => some (xs.foldl maxI x)
def minL : List Int → Option Int
  | [] => none
  | x :: xs => some (xs.foldl minI x)
theorem foldl_maxI : ∀ (xs : List Int) (x : Int), (xs.foldl maxI x = x ∨ xs.foldl maxI x ∈ xs) ∧ x ≤ xs.foldl maxI x ∧ ∀ y ∈ xs, y ≤ xs.foldl maxI x
  | [], x => ⟨.inl rfl, Int.le_refl _, fun _ h => by cases h⟩
  | y :: xs, x => by
    obtain ⟨h1, h2, h3⟩ := foldl_maxI xs (maxI x y)
    rw [List.foldl_cons]
    have hm := maxI_eq x y
    refine ⟨?_, by omega, fun z hz => ?_⟩
    · rcases h1 with h1 | h1
      · rw [h1]; unfold maxI; split
        · exact .inr (List.mem_cons_self ..)
        · exact .inl rfl
      · exact .inr (List.mem_cons_of_mem _ h1)
    · rcases List.mem_cons.mp hz with rfl | hz
      · omega
      · exact h3 z hz
theorem foldl_minI : ∀ (xs : List Int) (x : Int), (xs.foldl minI x = x ∨ xs.foldl minI x ∈ xs) ∧ xs.foldl minI x ≤ x ∧ ∀ y ∈ xs, xs.foldl minI x ≤ y
  | [], x => ⟨.inl rfl, Int.le_refl _, fun _ h => by cases h⟩
  | y :: xs, x => by
    obtain ⟨h1, h2, h3⟩ := foldl_minI xs (minI x y)
    rw [List.foldl_cons]
    have hm := minI_eq x y
    refine ⟨?_, by omega, fun z hz => ?_⟩
    · rcases h1 with h1 | h1
      · rw [h1]; unfold minI; split
        · exact .inr (List.mem_cons_self ..)
        · exact .inl rfl
      · exact .inr (List.mem_cons_of_mem _ h1)
    · rcases List.mem_cons.mp hz with rfl | hz
      · omega
      · exact h3 z hz
theorem Ev.maxS {t : Rs (List Int)} (h : Ev G F sh e (Pl (α := Int)) t) : Ev G F sh (.blt m .max (.cons e .nil)) (Pv (α := Int)) (t.bind fun l => Rs.of (maxL l)) := by
  refine ev_l1 (op := fun ds M Q => bltD m .max ds M Q) (fun l : List Int => Rs.of (maxL l)) (fun _ _ _ _ => rfl) ?_ h
  intro l x dr M Q X p w
  obtain ⟨v, ev, q⟩ := of_wp w
  have p : lsOf M x = some (l.map D.int) := p
  have key : (match lsOf M x with
    | some ds => match intsOf ds with
      | some bs => 0 < bs.length ∧ ∀ m, m ∈ bs → (∀ y, y ∈ bs → y ≤ m) → Q (.int m) M
      | none => False
    | none => False) := by
    rw [p]; simp only [intsOf_map]
    cases l with
    | nil => cases ev
    | cons a l =>
      cases ev
      obtain ⟨h1, h2, h3⟩ := foldl_maxI l a
      refine ⟨Nat.succ_pos _, fun z hz hm => ?_⟩
      have : z = l.foldl maxI a := by
        have q1 : l.foldl maxI a ≤ z := by
          rcases h1 with h1 | h1
          · rw [h1]; exact hm a (List.mem_cons_self ..)
          · exact hm _ (List.mem_cons_of_mem _ h1)
        have q2 : z ≤ l.foldl maxI a := by
          rcases List.mem_cons.mp hz with rfl | hz
          · exact h2
          · exact h3 z hz
        omega
      rw [this]; exact q _ fun _ => rfl
  cases x <;> first | exact key | cases p
theorem Ev.minS {t : Rs (List Int)} (h : Ev G F sh e (Pl (α := Int)) t) : Ev G F sh (.blt m .min (.cons e .nil)) (Pv (α := Int)) (t.bind fun l => Rs.of (minL l)) := by
  refine ev_l1 (op := fun ds M Q => bltD m .min ds M Q) (fun l : List Int => Rs.of (minL l)) (fun _ _ _ _ => rfl) ?_ h
  intro l x dr M Q X p w
  obtain ⟨v, ev, q⟩ := of_wp w
  have p : lsOf M x = some (l.map D.int) := p
  have key : (match lsOf M x with
    | some ds => match intsOf ds with
      | some bs => 0 < bs.length ∧ ∀ m, m ∈ bs → (∀ y, y ∈ bs → m ≤ y) → Q (.int m) M
      | none => False
    | none => False) := by
    rw [p]; simp only [intsOf_map]
    cases l with
    | nil => cases ev
    | cons a l =>
      cases ev
      obtain ⟨h1, h2, h3⟩ := foldl_minI l a
      refine ⟨Nat.succ_pos _, fun z hz hm => ?_⟩
      have : z = l.foldl minI a := by
        have q1 : z ≤ l.foldl minI a := by
          rcases h1 with h1 | h1
          · rw [h1]; exact hm a (List.mem_cons_self ..)
          · exact hm _ (List.mem_cons_of_mem _ h1)
        have q2 : l.foldl minI a ≤ z := by
          rcases List.mem_cons.mp hz with rfl | hz
          · exact h2
          · exact h3 z hz
        omega
      rw [this]; exact q _ fun _ => rfl
  cases x <;> first | exact key | cases p
theorem Ev.toInt (h : Ev G F sh e (Pv (α := Int)) ti) : Ev G F sh (.bty m .int (.cons e .nil)) (Pv (α := Int)) ti := by
  have q := ev_l1 (e' := .bty m .int (.cons e .nil)) (P' := Pv (α := Int)) (op := fun ds M Q => btyD m .int ds M Q) (fun i : Int => .ok i) (fun _ _ _ _ => rfl) (by
    rintro i _ dr M Q X rfl w; exact w _ fun _ => rfl) h
  rwa [show (ti.bind fun i => .ok i) = ti from Rs.bind_ok ti] at q
def b2i (b : Bool) : Int := if b then 1 else 0
theorem Ev.ofBool {t : Rs Bool} (h : Ev G F sh e (Pv (α := Bool)) t) : Ev G F sh (.bty m .int (.cons e .nil)) (Pv (α := Int)) (t.bind fun b => .ok (b2i b)) := by
  refine ev_l1 (op := fun ds M Q => btyD m .int ds M Q) (fun b : Bool => .ok (b2i b)) (fun _ _ _ _ => rfl) ?_ h
  rintro i _ dr M Q X rfl w
  exact w _ fun _ => rfl
theorem Ev.tuple [Tc α] {t : Rs (List α)} (h : Ev G F sh e (Ps (α := α)) t) : Ev G F sh (.bty m .tuple (.cons e .nil)) (Pv (α := List α)) t := by
  have q := ev_l1 (e' := .bty m .tuple (.cons e .nil)) (P' := Pv (α := List α)) (op := fun ds M Q => btyD m .tuple ds M Q) (fun i : List α => .ok i) (fun _ _ _ _ => rfl) (by
    intro l x dr M Q X p w
    have p : sqOf M x = some (l.map Tc.d) := p
    have key : (match sqOf M x with | some ds => Q (.tup ds) M | none => False) := by rw [p]; exact w _ fun _ => rfl
    cases x <;> first | exact key | cases p) h
  rwa [show (t.bind fun i => .ok i) = t from Rs.bind_ok t] at q
theorem Ev.list [Tc α] {t : Rs (List α)} (h : Ev G F sh e (Ps (α := α)) t) : Ev G F sh (.bty false .list (.cons e .nil)) (Pv (α := Li α)) (t.bind fun l => .ok ⟨l⟩) := by
  refine ev_l1 (op := fun ds M Q => btyD false .list ds M Q) (fun l : List α => (.ok ⟨l⟩ : Rs (Li α))) (fun _ _ _ _ => rfl) ?_ h
  intro l x dr M Q X p w
  have p : sqOf M x = some (l.map Tc.d) := p
  have key : (match sqOf M x with | some ds => newL false ds M Q | none => False) := by rw [p]; exact w _ fun _ => rfl
  cases x <;> first | exact key | cases p
def strI (i : Int) : Rs String := gd (i.natAbs.log2 < 1920) (toString i)
theorem Ev.strI (h : Ev G F sh e (Pv (α := Int)) ti) : Ev G F sh (.bty m .str (.cons e .nil)) (Pv (α := String)) (ti.bind DS.strI) := by
  refine ev_l1 (op := fun ds M Q => btyD m .str ds M Q) DS.strI (fun _ _ _ _ => rfl) ?_ h
  rintro i _ dr M Q X rfl w
  obtain ⟨h1, q⟩ := gd_wp w
  exact ⟨h1, q _ fun _ => rfl⟩
theorem Ev.abs (h : Ev G F sh e (Pv (α := Int)) ti) : Ev G F sh (.blt m .abs (.cons e .nil)) (Pv (α := Int)) (ti.bind fun i => .ok (if i < 0 then -i else i)) := by
  refine ev_l1 (op := fun ds M Q => bltD m .abs ds M Q) (fun i : Int => .ok (if i < 0 then -i else i)) (fun _ _ _ _ => rfl) ?_ h
  rintro i _ dr M Q X rfl w
  exact w _ fun _ => rfl
/-- what isinstance says of plain data -/
def isT (T : IC) (d : D) : Rs Bool := Rs.of (isiD T (fun _ => none) d)
theorem isi_any {T : IC} {d : D} {M : Mp} {b : Bool} (h : isiD T (fun _ => none) d = some b) : isiD T M d = some b := by
  cases d <;> first | exact h | cases h
theorem Ev.isi {T : IC} {t : Rs D} (h : Ev G F sh e (Pv (α := D)) t) : Ev G F sh (.isi e T) (Pv (α := Bool)) (t.bind (isT T)) := by
  refine ev_one (f := isT T) (op := fun x M1 Q => match isiD T M1 x with | some k => Q (.bl k) M1 | none => False) (fun _ _ _ _ => rfl) ?_ h
  intro d x dr M Q X hx w
  have hx : x = d := hx
  subst hx
  obtain ⟨b, e, q⟩ := of_wp w
  show (match isiD T M x with | some k => Q (.bl k) M | none => False)
  rw [isi_any e]
  exact q _ fun _ => rfl
/-! ### tuples and lists -/
theorem EvL.list0 [Tc α] : EvL G F sh .nil (fun (l : List α) _ _ ds => ds = l.map Tc.d) (.ok []) := fun W ρ M Q r w => by unfold wpL; exact w [] M r fun _ _ => rfl
theorem EvL.listS [Tc α] {es : EL} {t : Rs α} {ts : Rs (List α)} (h : Ev G F sh e (Pv (α := α)) t) (hs : EvL G F sh es (fun (l : List α) _ _ ds => ds = l.map Tc.d) ts) : EvL G F sh (.cons e es) (fun (l : List α) _ _ ds => ds = l.map Tc.d) (t.bind fun x => ts.bind fun y => .ok (x :: y)) := by
  intro W ρ M Q r w
  unfold wpL
  refine h W ρ M _ r (Rs.wp_mono (fun a q x M1 r1 p1 => ?_) (fun _ q => q) (Rs.wp_bind.mp w))
  refine hs W ρ M1 _ r1 (Rs.wp_mono (fun b q y M2 r2 p2 => ?_) (fun _ q => q) (Rs.wp_bind.mp q))
  refine q (x :: y) M2 r2 fun M'' r'' => ?_
  rw [p1 M'' r'', p2 M'' r'']; rfl
theorem Ev.tupL [Tc α] {es : EL} {ts : Rs (List α)} (hs : EvL G F sh es (fun (l : List α) _ _ ds => ds = l.map Tc.d) ts) : Ev G F sh (.tup es) (Pv (α := List α)) ts := by
  intro W ρ M Q r w
  unfold wpE
  refine hs W ρ M _ r (Rs.wp_mono (fun a q xs M1 r1 p1 => ?_) (fun _ q => q) w)
  cases p1 M1 r1
  exact q _ M1 r1 fun _ _ => rfl
theorem Ev.lst [Tc α] {es : EL} {ts : Rs (List α)} (hs : EvL G F sh es (fun (l : List α) _ _ ds => ds = l.map Tc.d) ts) : Ev G F sh (.lst false es) (Pv (α := Li α)) (ts.bind fun l => .ok ⟨l⟩) := by
  intro W ρ M Q r w
  unfold wpE
  refine hs W ρ M _ r (Rs.wp_mono (fun a q xs M1 r1 p1 => ?_) (fun _ q => q) (Rs.wp_bind.mp w))
  cases p1 M1 r1
  exact q _ M1 r1 fun _ _ => rfl
end
end DS

/-! MR7: tuples of known form, targets, iterables, comprehensions -/
namespace DS
open PySem PySem.Spec PyProof.Rows L2
section
variable {G : Gam} {F : Fr} {sh : List Sl} {α β γ δ : Type} {e e1 e2 e3 e4 e5 e6 : E} {m : Bool} {ti tj : Rs Int}
theorem wpL_cons {W : XW} {ρ : Env1} {M : Mp} {Q : List D → Mp → Prop} {es : EL} : wpL G W (.cons e es) ρ M Q = wpE G W e ρ M fun d M1 => wpL G W es ρ M1 fun ds M2 => Q (d :: ds) M2 := rfl

theorem Ev.t1 {A1 : Type} [Tc A1] {t1 : Rs A1} (h1 : Ev G F sh e1 (Pv (α := A1)) t1) : Ev G F sh (.tup (.cons e1 .nil)) (Pv (α := T1 A1)) (t1.bind fun a => .ok ⟨a⟩) := by
  intro W ρ M Q r w
  unfold wpE
  simp only [wpL_cons]
  refine h1 W ρ M _ r (Rs.wp_mono (fun v1 q1 x1 M1 r1 p1 => ?_) (fun _ q => q) (Rs.wp_bind.mp w))
  cases p1 M1 r1
  show Q _ M1
  exact q1 _ M1 r1 fun _ _ => rfl
theorem Ev.t2 {A1 A2 : Type} [Tc A1] [Tc A2] {t1 : Rs A1} {t2 : Rs A2} (h1 : Ev G F sh e1 (Pv (α := A1)) t1) (h2 : Ev G F sh e2 (Pv (α := A2)) t2) : Ev G F sh (.tup (.cons e1 (.cons e2 .nil))) (Pv (α := T2 A1 A2)) (t1.bind fun a => t2.bind fun b => .ok ⟨a, b⟩) := by
  intro W ρ M Q r w
  unfold wpE
  simp only [wpL_cons]
  refine h1 W ρ M _ r (Rs.wp_mono (fun v1 q1 x1 M1 r1 p1 => ?_) (fun _ q => q) (Rs.wp_bind.mp w))
  refine h2 W ρ M1 _ r1 (Rs.wp_mono (fun v2 q2 x2 M2 r2 p2 => ?_) (fun _ q => q) (Rs.wp_bind.mp q1))
  cases p1 M1 r1
  cases p2 M2 r2
  show Q _ M2
  exact q2 _ M2 r2 fun _ _ => rfl
theorem Ev.t3 {A1 A2 A3 : Type} [Tc A1] [Tc A2] [Tc A3] {t1 : Rs A1} {t2 : Rs A2} {t3 : Rs A3} (h1 : Ev G F sh e1 (Pv (α := A1)) t1) (h2 : Ev G F sh e2 (Pv (α := A2)) t2) (h3 : Ev G F sh e3 (Pv (α := A3)) t3) : Ev G F sh (.tup (.cons e1 (.cons e2 (.cons e3 .nil)))) (Pv (α := T3 A1 A2 A3)) (t1.bind fun a => t2.bind fun b => t3.bind fun c => .ok ⟨a, b, c⟩) := by
  intro W ρ M Q r w
  unfold wpE
  simp only [wpL_cons]
  refine h1 W ρ M _ r (Rs.wp_mono (fun v1 q1 x1 M1 r1 p1 => ?_) (fun _ q => q) (Rs.wp_bind.mp w))
  refine h2 W ρ M1 _ r1 (Rs.wp_mono (fun v2 q2 x2 M2 r2 p2 => ?_) (fun _ q => q) (Rs.wp_bind.mp q1))
  refine h3 W ρ M2 _ r2 (Rs.wp_mono (fun v3 q3 x3 M3 r3 p3 => ?_) (fun _ q => q) (Rs.wp_bind.mp q2))
  cases p1 M1 r1
  cases p2 M2 r2
  cases p3 M3 r3
  show Q _ M3
  exact q3 _ M3 r3 fun _ _ => rfl
theorem Ev.t4 {A1 A2 A3 A4 : Type} [Tc A1] [Tc A2] [Tc A3] [Tc A4] {t1 : Rs A1} {t2 : Rs A2} {t3 : Rs A3} {t4 : Rs A4} (h1 : Ev G F sh e1 (Pv (α := A1)) t1) (h2 : Ev G F sh e2 (Pv (α := A2)) t2) (h3 : Ev G F sh e3 (Pv (α := A3)) t3) (h4 : Ev G F sh e4 (Pv (α := A4)) t4) : Ev G F sh (.tup (.cons e1 (.cons e2 (.cons e3 (.cons e4 .nil))))) (Pv (α := T4 A1 A2 A3 A4)) (t1.bind fun a => t2.bind fun b => t3.bind fun c => t4.bind fun d => .ok ⟨a, b, c, d⟩) := by
  intro W ρ M Q r w
  unfold wpE
  simp only [wpL_cons]
  refine h1 W ρ M _ r (Rs.wp_mono (fun v1 q1 x1 M1 r1 p1 => ?_) (fun _ q => q) (Rs.wp_bind.mp w))
  refine h2 W ρ M1 _ r1 (Rs.wp_mono (fun v2 q2 x2 M2 r2 p2 => ?_) (fun _ q => q) (Rs.wp_bind.mp q1))
  refine h3 W ρ M2 _ r2 (Rs.wp_mono (fun v3 q3 x3 M3 r3 p3 => ?_) (fun _ q => q) (Rs.wp_bind.mp q2))
  refine h4 W ρ M3 _ r3 (Rs.wp_mono (fun v4 q4 x4 M4 r4 p4 => ?_) (fun _ q => q) (Rs.wp_bind.mp q3))
  cases p1 M1 r1
  cases p2 M2 r2
  cases p3 M3 r3
  cases p4 M4 r4
  show Q _ M4
  exact q4 _ M4 r4 fun _ _ => rfl
theorem Ev.t5 {A1 A2 A3 A4 A5 : Type} [Tc A1] [Tc A2] [Tc A3] [Tc A4] [Tc A5] {t1 : Rs A1} {t2 : Rs A2} {t3 : Rs A3} {t4 : Rs A4} {t5 : Rs A5} (h1 : Ev G F sh e1 (Pv (α := A1)) t1) (h2 : Ev G F sh e2 (Pv (α := A2)) t2) (h3 : Ev G F sh e3 (Pv (α := A3)) t3) (h4 : Ev G F sh e4 (Pv (α := A4)) t4) (h5 : Ev G F sh e5 (Pv (α := A5)) t5) : Ev G F sh (.tup (.cons e1 (.cons e2 (.cons e3 (.cons e4 (.cons e5 .nil)))))) (Pv (α := T5 A1 A2 A3 A4 A5)) (t1.bind fun a => t2.bind fun b => t3.bind fun c => t4.bind fun d => t5.bind fun e => .ok ⟨a, b, c, d, e⟩) := by
  intro W ρ M Q r w
  unfold wpE
  simp only [wpL_cons]
  refine h1 W ρ M _ r (Rs.wp_mono (fun v1 q1 x1 M1 r1 p1 => ?_) (fun _ q => q) (Rs.wp_bind.mp w))
  refine h2 W ρ M1 _ r1 (Rs.wp_mono (fun v2 q2 x2 M2 r2 p2 => ?_) (fun _ q => q) (Rs.wp_bind.mp q1))
  refine h3 W ρ M2 _ r2 (Rs.wp_mono (fun v3 q3 x3 M3 r3 p3 => ?_) (fun _ q => q) (Rs.wp_bind.mp q2))
  refine h4 W ρ M3 _ r3 (Rs.wp_mono (fun v4 q4 x4 M4 r4 p4 => ?_) (fun _ q => q) (Rs.wp_bind.mp q3))
  refine h5 W ρ M4 _ r4 (Rs.wp_mono (fun v5 q5 x5 M5 r5 p5 => ?_) (fun _ q => q) (Rs.wp_bind.mp q4))
  cases p1 M1 r1
  cases p2 M2 r2
  cases p3 M3 r3
  cases p4 M4 r4
  cases p5 M5 r5
  show Q _ M5
  exact q5 _ M5 r5 fun _ _ => rfl
theorem Ev.t6 {A1 A2 A3 A4 A5 A6 : Type} [Tc A1] [Tc A2] [Tc A3] [Tc A4] [Tc A5] [Tc A6] {t1 : Rs A1} {t2 : Rs A2} {t3 : Rs A3} {t4 : Rs A4} {t5 : Rs A5} {t6 : Rs A6} (h1 : Ev G F sh e1 (Pv (α := A1)) t1) (h2 : Ev G F sh e2 (Pv (α := A2)) t2) (h3 : Ev G F sh e3 (Pv (α := A3)) t3) (h4 : Ev G F sh e4 (Pv (α := A4)) t4) (h5 : Ev G F sh e5 (Pv (α := A5)) t5) (h6 : Ev G F sh e6 (Pv (α := A6)) t6) : Ev G F sh (.tup (.cons e1 (.cons e2 (.cons e3 (.cons e4 (.cons e5 (.cons e6 .nil))))))) (Pv (α := T6 A1 A2 A3 A4 A5 A6)) (t1.bind fun a => t2.bind fun b => t3.bind fun c => t4.bind fun d => t5.bind fun e => t6.bind fun f => .ok ⟨a, b, c, d, e, f⟩) := by
  intro W ρ M Q r w
  unfold wpE
  simp only [wpL_cons]
  refine h1 W ρ M _ r (Rs.wp_mono (fun v1 q1 x1 M1 r1 p1 => ?_) (fun _ q => q) (Rs.wp_bind.mp w))
  refine h2 W ρ M1 _ r1 (Rs.wp_mono (fun v2 q2 x2 M2 r2 p2 => ?_) (fun _ q => q) (Rs.wp_bind.mp q1))
  refine h3 W ρ M2 _ r2 (Rs.wp_mono (fun v3 q3 x3 M3 r3 p3 => ?_) (fun _ q => q) (Rs.wp_bind.mp q2))
  refine h4 W ρ M3 _ r3 (Rs.wp_mono (fun v4 q4 x4 M4 r4 p4 => ?_) (fun _ q => q) (Rs.wp_bind.mp q3))
  refine h5 W ρ M4 _ r4 (Rs.wp_mono (fun v5 q5 x5 M5 r5 p5 => ?_) (fun _ q => q) (Rs.wp_bind.mp q4))
  refine h6 W ρ M5 _ r5 (Rs.wp_mono (fun v6 q6 x6 M6 r6 p6 => ?_) (fun _ q => q) (Rs.wp_bind.mp q5))
  cases p1 M1 r1
  cases p2 M2 r2
  cases p3 M3 r3
  cases p4 M4 r4
  cases p5 M5 r5
  cases p6 M6 r6
  show Q _ M6
  exact q6 _ M6 r6 fun _ _ => rfl
/-! ### targets -/
mutual
def tgN : TG1 → List Nat
  | .v i => [i]
  | .tup ts => tgNs ts
  | .sub _ _ => []
  | .att _ _ => []
def tgNs : TGL → List Nat
  | .nil => []
  | .cons t ts => tgN t ++ tgNs ts
end
/-- a target of names takes x -/
def Bd (G : Gam) (F : Fr) (tg : TG1) (x : D) (sh sh' : List Sl) : Prop := ∀ (W : XW) (ρ : Env1) (M : Mp) (Q : Env1 → Mp → Prop), Rel F sh ρ M → (∀ ρ', Rel F sh' ρ' M → (∀ i, i ∉ tgN tg → slot ρ' i = slot ρ i) → Q ρ' M) → bindT G W tg x ρ M Q
def BdL (G : Gam) (F : Fr) (ts : TGL) (xs : List D) (sh sh' : List Sl) : Prop := ∀ (W : XW) (ρ : Env1) (M : Mp) (Q : Env1 → Mp → Prop), Rel F sh ρ M → (∀ ρ', Rel F sh' ρ' M → (∀ i, i ∉ tgNs ts → slot ρ' i = slot ρ i) → Q ρ' M) → bindL G W ts xs ρ M Q
theorem lt_n {i : Nat} {ρ : Env1} {M : Mp} (r : Rel F sh ρ M) (h : Nat.blt i sh.length = true) : i < F.n := Nat.lt_of_lt_of_le (Nat.blt_eq.mp h) r.le
theorem Bd.v [Tc α] {i : Nat} {x : α} (hi : Nat.blt i sh.length = true) : Bd G F (.v i) (Tc.d x) sh (sh.set i (.ar (Pv x))) := by
  intro W ρ M Q r k
  unfold bindT
  exact k _ (r.set (lt_n r hi) fun _ _ => rfl) fun j hj => slot_set_ne fun e => hj (by subst e; exact List.mem_singleton.mpr rfl)
/-- nothing is said of it -/
theorem Bd.w {i : Nat} {x : D} : Bd G F (.v i) x sh (sh.set i .junk) := by
  intro W ρ M Q r k
  unfold bindT
  exact k _ r.setJ fun j hj => slot_set_ne fun e => hj (by subst e; exact List.mem_singleton.mpr rfl)
theorem Bd.tup {ts : TGL} {x : D} {ds : List D} {sh' : List Sl} (hx : x = .tup ds) (hl : ds.length = tgLen ts) (h : BdL G F ts ds sh sh') : Bd G F (.tup ts) x sh sh' := by
  subst hx
  intro W ρ M Q r k
  unfold bindT
  exact ⟨hl, h W ρ M Q r k⟩
theorem BdL.nil : BdL G F .nil [] sh sh := fun W ρ M Q r k => by unfold bindL; exact ⟨rfl, k ρ r fun _ _ => rfl⟩
theorem BdL.cons {t : TG1} {ts : TGL} {x : D} {xs : List D} {sh1 sh2 : List Sl} (h : Bd G F t x sh sh1) (hs : BdL G F ts xs sh1 sh2) : BdL G F (.cons t ts) (x :: xs) sh sh2 := by
  intro W ρ M Q r k
  unfold bindL
  refine h W ρ M _ r fun ρ1 r1 k1 => hs W ρ1 M _ r1 fun ρ2 r2 k2 => k ρ2 r2 fun i hi => ?_
  have hi : i ∉ tgN t ++ tgNs ts := hi
  exact (k2 i fun z => hi (List.mem_append_right _ z)).trans (k1 i fun z => hi (List.mem_append_left _ z))
/-! ### what is walked -/
/-- .. for a loop: it stands still whatever is done -/
def It (G : Gam) (F : Fr) (sh : List Sl) [Tc α] (it : IT) (t : Rs (List α)) : Prop :=
  ∀ (W : XW) (ρ : Env1) (M : Mp) (Q : List D → (Mp → Prop) → Mp → Prop), Rel F sh ρ M → t.wp (fun l => ∀ g M', Rel F sh ρ M' → (∀ M'', g M'') → Q (l.map Tc.d) g M') (fun x => ∀ M', Rel F sh ρ M' → W x ρ M') → wpI G W it ρ M Q
/-- .. for a comprehension -/
def ItC (G : Gam) (F : Fr) (sh : List Sl) [Tc α] (it : IT) (t : Rs (List α)) : Prop :=
  ∀ (W : XW) (ρ : Env1) (M : Mp) (Q : List D → (Mp → Prop) → Mp → Prop), Rel F sh ρ M → t.wp (fun l => ∀ g M', Rel F sh ρ M' → (∀ M'', Rel F sh ρ M'' → g M'') → Q (l.map Tc.d) g M') (fun x => ∀ M', Rel F sh ρ M' → W x ρ M') → wpI G W it ρ M Q
theorem It.c [Tc α] {it : IT} {t : Rs (List α)} (h : It G F sh it t) : ItC G F sh it t := fun W ρ M Q r w => h W ρ M Q r (Rs.wp_mono (fun l q g M' r' k => q g M' r' fun M'' _ => k M'') (fun _ q => q) w)
theorem ItC.seq [Tc α] {t : Rs (List α)} (h : Ev G F sh e (Ps (α := α)) t) : ItC G F sh (.seq e) t := by
  intro W ρ M Q r w
  unfold wpI
  refine h W ρ M _ r (Rs.wp_mono (fun l q x M' r' p => ?_) (fun _ q => q) w)
  have p1 : sqOf M' x = some (l.map Tc.d) := p M' r'
  rw [p1]
  refine fun _ => q _ M' r' fun M'' r'' => ?_
  have p2 : sqOf M'' x = some (l.map Tc.d) := p M'' r''
  cases x with
  | ref a =>
    have q1 : (match M' a with | some (.lst ds) => some ds | _ => none) = some (l.map Tc.d) := p1
    have q2 : (match M'' a with | some (.lst ds) => some ds | _ => none) = some (l.map Tc.d) := p2
    show M'' a = M' a
    split at q1
    · rename_i e1
      split at q2
      · rename_i e2
        rw [e1, e2, Option.some.inj q1, Option.some.inj q2]
      · cases q2
    · cases q1
  | _ => trivial
theorem It.tup [Tc α] {t : Rs (List α)} (h : Ev G F sh e (Pv (α := List α)) t) : It G F sh (.seq e) t := by
  intro W ρ M Q r w
  unfold wpI
  refine h W ρ M _ r (Rs.wp_mono (fun l q x M' r' p => ?_) (fun _ q => q) w)
  cases p M' r'
  exact fun _ => q _ M' r' fun M'' => trivial
theorem It.li [Tc α] {t : Rs (Li α)} (h : Ev G F sh e (Pv (α := Li α)) t) : It G F sh (.seq e) (t.bind fun l => .ok l.l) := by
  intro W ρ M Q r w
  unfold wpI
  refine h W ρ M _ r (Rs.wp_mono (fun l q x M' r' p => ?_) (fun _ q => q) (Rs.wp_bind.mp w))
  cases p M' r'
  exact fun _ => q _ M' r' fun M'' => trivial
theorem It.fl [Tc α] {t : Rs (Fl α)} (h : Ev G F sh e (Pv (α := Fl α)) t) : It G F sh (.seq e) (t.bind fun l => .ok l.l) := by
  intro W ρ M Q r w
  unfold wpI
  refine h W ρ M _ r (Rs.wp_mono (fun l q x M' r' p => ?_) (fun _ q => q) (Rs.wp_bind.mp w))
  cases p M' r'
  exact fun _ => q _ M' r' fun M'' => trivial
def dSeq : D → Option (List D)
  | .tup ds => some ds
  | .lst ds => some ds
  | .frl ds => some ds
  | _ => none
theorem It.dyn {t : Rs D} (h : Ev G F sh e (Pv (α := D)) t) : It G F sh (.seq e) (t.bind fun d => Rs.of (dSeq d)) := by
  intro W ρ M Q r w
  unfold wpI
  refine h W ρ M _ r (Rs.wp_mono (fun d q x M' r' p => ?_) (fun _ q => q) (Rs.wp_bind.mp w))
  have hx : x = d := p M' r'
  subst hx
  obtain ⟨ds, e, q⟩ := of_wp q
  have q := q (stay M' x) M' r'
  rw [show List.map Tc.d ds = ds from List.map_id ds] at q
  cases x <;> first | (cases e; exact fun _ => q fun _ => trivial) | cases e
def irange (n : Int) : List Int := (List.range n.toNat).map fun i : Nat => (i : Int)
def irange2 (a b : Int) : List Int := (List.range (b - a).toNat).map fun i : Nat => a + (i : Int)
def rangeR (n : Int) : Rs (List Int) := gd (-(2 ^ 62) ≤ n ∧ n ≤ 16777216) (irange n)
def rangeR2 (a b : Int) : Rs (List Int) := gd (-(2 ^ 62) ≤ a ∧ a < 2 ^ 62 ∧ -(2 ^ 62) ≤ b ∧ b < 2 ^ 62 ∧ b - a ≤ 16777216) (irange2 a b)
theorem irange_d (n : Int) : (irange n).map (Tc.d (α := Int)) = rgD 0 1 n.toNat := by
  rw [rgD01]; unfold irange; rw [List.map_map]; rfl
theorem irange2_d (a b : Int) : (irange2 a b).map (Tc.d (α := Int)) = rgD a 1 (b - a).toNat := by
  rw [rgDc]; unfold irange2; rw [List.map_map]; rfl
theorem It.rng1 (h : Ev G F sh e (Pv (α := Int)) ti) : It G F sh (.rng1 e) (ti.bind rangeR) := by
  intro W ρ M Q r w
  unfold wpI
  refine h W ρ M _ r (Rs.wp_mono (fun n q x M' r' p => ?_) (fun _ q => q) (Rs.wp_bind.mp w))
  cases p M' r'
  obtain ⟨h1, q⟩ := gd_wp q
  have q := q (fun _ => True) M' r' fun _ => trivial
  rw [irange_d] at q
  exact ⟨h1, q⟩
theorem It.rngk {k : Int} (hk : -(2 ^ 62) ≤ k ∧ k ≤ 16777216) : It G F sh (.rng1 (.int k)) (.ok (irange k)) := by
  have h := It.rng1 (Ev.int (G := G) (F := F) (sh := sh) k)
  rwa [show ((Rs.ok k).bind rangeR) = rangeR k from rfl, show rangeR k = .ok (irange k) from gd_ok hk] at h
/-- range(len(..)) -/
theorem It.rngL [Tc α] {t : Rs (List α)} (h : Ev G F sh e (Ps (α := α)) t) : It G F sh (.rng1 (.blt m .len (.cons e .nil))) (t.bind fun l => .ok (irange l.length)) := by
  intro W ρ M Q r w
  unfold wpI
  have hw : ∀ K, wpE G W (.blt m .len (.cons e .nil)) ρ M K = wpE G W e ρ M (fun x M1 => bltD m .len [x] M1 K) := fun _ => rfl
  rw [hw]
  refine h W ρ M _ r (Rs.wp_mono (fun l q x M' r' p => ?_) (fun _ q => q) (Rs.wp_bind.mp w))
  have p : sqOf M' x = some (l.map Tc.d) := p M' r'
  have q := q (fun _ => True) M' r' fun _ => trivial
  rw [irange_d] at q
  have key : (match sqOf M' x with
      | some ds => ds.length ≤ sizeLine → ((-(2 ^ 62) ≤ (ds.length : Int) ∧ (ds.length : Int) ≤ 16777216) ∧ Q (rgD 0 1 (ds.length : Int).toNat) (fun _ => True) M')
      | none => match dcOf M' x with
        | some kvs => ((-(2 ^ 62) ≤ (kvs.length : Int) ∧ (kvs.length : Int) ≤ 16777216) ∧ Q (rgD 0 1 (kvs.length : Int).toNat) (fun _ => True) M')
        | none => False) := by
    rw [p]
    intro hz
    have hz : (l.map Tc.d).length ≤ 16777216 := hz
    rw [List.length_map] at hz
    simp only [List.length_map]
    exact ⟨⟨by omega, by omega⟩, q⟩
  cases x <;> first | exact key | cases p
theorem It.rng2 (h1 : Ev G F sh e1 (Pv (α := Int)) ti) (h2 : Ev G F sh e2 (Pv (α := Int)) tj) : It G F sh (.rng2 e1 e2) (ti.bind fun x => tj.bind fun y => rangeR2 x y) := by
  intro W ρ M Q r w
  unfold wpI
  refine h1 W ρ M _ r (Rs.wp_mono (fun n q x M1 r1 p => ?_) (fun _ q => q) (Rs.wp_bind.mp w))
  refine h2 W ρ M1 _ r1 (Rs.wp_mono (fun k q y M2 r2 p2 => ?_) (fun _ q => q) (Rs.wp_bind.mp q))
  cases p M1 r1; cases p2 M2 r2
  obtain ⟨hh, q⟩ := gd_wp q
  have q := q (fun _ => True) M2 r2 fun _ => trivial
  rw [irange2_d] at q
  exact ⟨hh, q⟩
def zip2 (a : List α) (b : List β) : List (T2 α β) := List.zipWith T2.mk a b
theorem zip2_d [Tc α] [Tc β] : ∀ (a : List α) (b : List β), (zip2 a b).map (Tc.d (α := T2 α β)) = zipD (a.map Tc.d) (b.map Tc.d)
  | [], _ => by simp [zip2, zipD]
  | _ :: _, [] => by simp [zip2, zipD]
  | x :: a, y :: b => by
    have := zip2_d a b
    unfold zip2 at this ⊢
    rw [List.zipWith_cons_cons, List.map_cons, List.map_cons, List.map_cons, zipD, this]; rfl
theorem It.zipT [Tc α] [Tc β] {t1 : Rs (List α)} {t2 : Rs (List β)} (h1 : Ev G F sh e1 (Pv (α := List α)) t1) (h2 : Ev G F sh e2 (Pv (α := List β)) t2) : It G F sh (.zip e1 e2) (t1.bind fun x => t2.bind fun y => .ok (zip2 x y)) := by
  intro W ρ M Q r w
  unfold wpI
  refine h1 W ρ M _ r (Rs.wp_mono (fun n q x M1 r1 p => ?_) (fun _ q => q) (Rs.wp_bind.mp w))
  refine h2 W ρ M1 _ r1 (Rs.wp_mono (fun k q y M2 r2 p2 => ?_) (fun _ q => q) (Rs.wp_bind.mp q))
  cases p M1 r1; cases p2 M2 r2
  have q := q _ M2 r2 (fun _ => ⟨trivial, trivial⟩ : ∀ M', stay M2 (.tup (n.map Tc.d)) M' ∧ stay M2 (.tup (k.map Tc.d)) M')
  rw [zip2_d] at q
  exact fun _ _ => q
theorem It.zipL [Tc α] [Tc β] {t1 : Rs (Li α)} {t2 : Rs (Li β)} (h1 : Ev G F sh e1 (Pv (α := Li α)) t1) (h2 : Ev G F sh e2 (Pv (α := Li β)) t2) : It G F sh (.zip e1 e2) (t1.bind fun x => t2.bind fun y => .ok (zip2 x.l y.l)) := by
  intro W ρ M Q r w
  unfold wpI
  refine h1 W ρ M _ r (Rs.wp_mono (fun n q x M1 r1 p => ?_) (fun _ q => q) (Rs.wp_bind.mp w))
  refine h2 W ρ M1 _ r1 (Rs.wp_mono (fun k q y M2 r2 p2 => ?_) (fun _ q => q) (Rs.wp_bind.mp q))
  cases p M1 r1; cases p2 M2 r2
  have q := q _ M2 r2 (fun _ => ⟨trivial, trivial⟩ : ∀ M', stay M2 (.lst (n.l.map Tc.d)) M' ∧ stay M2 (.lst (k.l.map Tc.d)) M')
  rw [zip2_d] at q
  exact fun _ _ => q
def enumF : Int → List α → List (T2 Int α)
  | _, [] => []
  | i, x :: xs => ⟨i, x⟩ :: enumF (i + 1) xs
theorem enumF_d [Tc α] : ∀ (k : Nat) (a : List α), (enumF (k : Int) a).map (Tc.d (α := T2 Int α)) = enumD k (a.map Tc.d)
  | _, [] => rfl
  | k, x :: a => by
    have := enumF_d (k + 1) a
    rw [enumF, List.map_cons, List.map_cons, enumD, ← this]; rfl
theorem It.enumT [Tc α] {t1 : Rs (List α)} (h1 : Ev G F sh e1 (Pv (α := List α)) t1) : It G F sh (.enum e1) (t1.bind fun x => .ok (enumF 0 x)) := by
  intro W ρ M Q r w
  unfold wpI
  refine h1 W ρ M _ r (Rs.wp_mono (fun n q x M1 r1 p => ?_) (fun _ q => q) (Rs.wp_bind.mp w))
  cases p M1 r1
  have q := q _ M1 r1 (fun _ => trivial : ∀ M', stay M1 (.tup (n.map Tc.d)) M')
  rw [show (0 : Int) = ((0 : Nat) : Int) from rfl, enumF_d] at q
  exact fun _ => q
theorem It.enumL [Tc α] {t1 : Rs (Li α)} (h1 : Ev G F sh e1 (Pv (α := Li α)) t1) : It G F sh (.enum e1) (t1.bind fun x => .ok (enumF 0 x.l)) := by
  intro W ρ M Q r w
  unfold wpI
  refine h1 W ρ M _ r (Rs.wp_mono (fun n q x M1 r1 p => ?_) (fun _ q => q) (Rs.wp_bind.mp w))
  cases p M1 r1
  have q := q _ M1 r1 (fun _ => trivial : ∀ M', stay M1 (.lst (n.l.map Tc.d)) M')
  rw [show (0 : Int) = ((0 : Nat) : Int) from rfl, enumF_d] at q
  exact fun _ => q
/-! ### comprehensions -/
def wsh (sh : List Sl) : List Nat → List Sl
  | [] => sh
  | v :: vs => (wsh sh vs).set v .junk
theorem Rel.wipe {ρ : Env1} {M : Mp} (r : Rel F sh ρ M) : ∀ vs, Rel F (wsh sh vs) (wipeD ρ vs) M
  | [] => r
  | v :: vs => (Rel.wipe r vs).setJ
theorem slot_wipe {ρ : Env1} {i : Nat} : ∀ {vs : List Nat}, i ∉ vs → slot (wipeD ρ vs) i = slot ρ i
  | [], _ => rfl
  | v :: vs, h => by
    unfold wipeD
    rw [slot_set_ne fun e => h (by subst e; exact List.mem_cons_self ..)]
    exact slot_wipe fun z => h (List.mem_cons_of_mem _ z)
/-- what may be changed is the same, beside the own slots -/
inductive SM (own : List Nat) : Nat → List Sl → List Sl → Prop
  | nil {k l} : SM own k [] l
  | junk {k s r r'} : SM own (k + 1) r r' → SM own k (.junk :: r) (s :: r')
  | ar {k P s r r'} : SM own (k + 1) r r' → SM own k (.ar P :: r) (s :: r')
  | mu {k l o r r'} : k ∉ own → SM own (k + 1) r r' → SM own k (.mu l o :: r) (.mu l o :: r')
theorem SM.at {own : List Nat} : ∀ {k : Nat} {sh sh' : List Sl}, SM own k sh sh' → ∀ {i : Nat} {l : Bool} {o : MO}, nth sh i = some (.mu l o) → nth sh' i = some (.mu l o) ∧ k + i ∉ own
  | _, _, _, .nil, _, _, _, h => by cases h
  | k, _, _, .junk w, i, l, o, h => by
    cases i with
    | zero => cases h
    | succ i => have := SM.at w (i := i) h; rw [Nat.add_right_comm, Nat.add_assoc] at this; exact this
  | k, _, _, .ar w, i, l, o, h => by
    cases i with
    | zero => cases h
    | succ i => have := SM.at w (i := i) h; rw [Nat.add_right_comm, Nat.add_assoc] at this; exact this
  | k, _, _, .mu n w, i, l, o, h => by
    cases i with
    | zero => cases h; exact ⟨rfl, n⟩
    | succ i => have := SM.at w (i := i) h; rw [Nat.add_right_comm, Nat.add_assoc] at this; exact this
theorem Rel.back {sh1 : List Sl} {ρ ρ1 : Env1} {M M1 : Mp} {own : List Nat} (r0 : Rel F sh ρ M) (r1 : Rel F sh1 ρ1 M1) (h : SM own 0 sh sh1) (hs : ∀ i, i ∉ own → slot ρ1 i = slot ρ i) : Rel F sh ρ M1 := by
  refine ⟨r0.len, r0.le, fun i s e => ?_, r0.dj, r1.fr, r0.d0, r0.o0⟩
  cases s with
  | junk => trivial
  | ar P => exact r0.sl i _ e
  | mu l o =>
    obtain ⟨h1, h2⟩ := h.at e
    rw [Nat.zero_add] at h2
    obtain ⟨a, q1, q2, q3⟩ := r1.sl i _ h1
    exact ⟨a, (hs i h2).symm.trans q1, q2, q3⟩
/-- a clause's test -/
def EvC (G : Gam) (F : Fr) (sh : List Sl) (c : EO) (t : Rs Bool) : Prop :=
  ∀ (W : XW) (ρ : Env1) (M : Mp) (Q : Bool → Mp → Prop), Rel F sh ρ M → t.wp (fun v => ∀ M', Rel F sh ρ M' → Q v M') (fun x => ∀ M', Rel F sh ρ M' → W x ρ M') → wpC G W c ρ M Q
theorem EvC.none : EvC G F sh .none (.ok true) := fun W ρ M Q r w => by unfold wpC; exact w M r
theorem EvC.some {t : Rs Bool} (h : Ev G F sh e (Pv (α := Bool)) t) : EvC G F sh (.some e) t := by
  intro W ρ M Q r w
  unfold wpC
  refine h W ρ M _ r (Rs.wp_mono (fun v q x M' r' p => ?_) (fun _ q => q) w)
  cases p M' r'
  exact q M' r'
theorem lc_core [Tc α] [Tc β] {own : List (Str × Nat)} {elt : E} {tg : TG1} {c : EO} {sB : α → List Sl} {tc : α → Rs Bool} {te : α → Rs β}
    (hn : ∀ i ∈ tgN tg, i ∈ own.map (·.2)) (hb : ∀ x : α, Bd G F tg (Tc.d x) (wsh sh (own.map (·.2))) (sB x)) (hm : ∀ x, SM (own.map (·.2)) 0 sh (sB x)) (hc : ∀ x, EvC G F (sB x) c (tc x)) (he : ∀ x, Ev G F (sB x) elt (Pv (α := β)) (te x))
    {ρ : Env1} {g : Mp → Prop} {Q : List D → Mp → Prop} {X : XD → Prop} (hg : ∀ M'', Rel F sh ρ M'' → g M'') :
    ∀ (xs : List α) (acc : List D) (M : Mp), Rel F sh ρ M → (Rs.comp tc te xs).wp (fun ys => ∀ M', Rel F sh ρ M' → Q (acc ++ ys.map Tc.d) M') X →
      foldC (bindT G (fun _ _ _ => False) tg) (wpC G (fun _ _ _ => False) c) (wpE G (fun _ _ _ => False) elt) (wipeD ρ (own.map (·.2))) g (xs.map Tc.d) acc M Q
  | [], acc, M, r, w => ⟨hg M r, by have := w M r; rwa [List.map_nil, List.append_nil] at this⟩
  | x :: xs, acc, M, r, w => by
    refine ⟨hg M r, hb x _ _ M _ (r.wipe _) fun ρ1 r1 k1 => ?_⟩
    have hs : ∀ i, i ∉ own.map (·.2) → slot ρ1 i = slot ρ i := fun i hi => (k1 i fun z => hi (hn i z)).trans (slot_wipe hi)
    unfold Rs.comp at w
    refine hc x _ ρ1 M _ r1 (Rs.only_wp (X := X) (Rs.wp_mono (fun b q M2 r2 => ?_) (fun _ q => q) (Rs.wp_bind.mp w)))
    cases b with
    | true =>
      refine he x _ ρ1 M2 _ r2 (Rs.only_wp (X := X) (Rs.wp_mono (fun y q z M3 r3 p3 => ?_) (fun _ q => q) (Rs.wp_bind.mp q)))
      cases p3 M3 r3
      refine lc_core hn hb hm hc he hg xs _ M3 (r.back r3 (hm x) hs) (Rs.wp_mono (fun ys q M' r' => ?_) (fun _ q => q) (Rs.wp_bind.mp q))
      have := q M' r'
      rwa [List.map_cons, ← List.singleton_append, ← List.append_assoc] at this
    | false => exact lc_core hn hb hm hc he hg xs acc M2 (r.back r2 (hm x) hs) q
theorem Ev.lc [Tc α] [Tc β] {own : List (Str × Nat)} {elt : E} {tg : TG1} {it : IT} {c : EO} {sB : α → List Sl} {tc : α → Rs Bool} {te : α → Rs β} {tl : Rs (List α)} (hi : ItC G F sh it tl)
    (hn : ∀ i ∈ tgN tg, i ∈ own.map (·.2)) (hb : ∀ x : α, Bd G F tg (Tc.d x) (wsh sh (own.map (·.2))) (sB x)) (hm : ∀ x, SM (own.map (·.2)) 0 sh (sB x)) (hc : ∀ x, EvC G F (sB x) c (tc x)) (he : ∀ x, Ev G F (sB x) elt (Pv (α := β)) (te x)) :
    Ev G F sh (.lc false own elt tg it c) (Pv (α := Li β)) (tl.bind fun xs => (Rs.comp tc te xs).bind fun ys => .ok ⟨ys⟩) := by
  intro W ρ M Q r w
  unfold wpE
  refine hi W ρ M _ r (Rs.wp_mono (fun xs q g M1 r1 hg => ?_) (fun _ q => q) (Rs.wp_bind.mp w))
  refine lc_core hn hb hm hc he hg xs [] M1 r1 (Rs.wp_mono (fun ys q M' r' => ?_) (fun _ q => q) (Rs.wp_bind.mp q))
  exact q _ M' r' fun _ _ => rfl
/-- a new list that may be changed -/
def EvM (G : Gam) (F : Fr) (sh : List Sl) (e : E) (o : γ → MO) (t : Rs γ) : Prop :=
  ∀ (W : XW) (ρ : Env1) (M : Mp) (Q : QE), Rel F sh ρ M → t.wp (fun v => ∀ p M', Rel F sh ρ M' → M' p = none → Q (.ref p) (mset M' p (o v))) (fun x => ∀ M', Rel F sh ρ M' → W x ρ M') → wpE G W e ρ M Q
theorem EvM.lc [Tc α] [Tc β] {own : List (Str × Nat)} {elt : E} {tg : TG1} {it : IT} {c : EO} {sB : α → List Sl} {tc : α → Rs Bool} {te : α → Rs β} {tl : Rs (List α)} (hi : ItC G F sh it tl)
    (hn : ∀ i ∈ tgN tg, i ∈ own.map (·.2)) (hb : ∀ x : α, Bd G F tg (Tc.d x) (wsh sh (own.map (·.2))) (sB x)) (hm : ∀ x, SM (own.map (·.2)) 0 sh (sB x)) (hc : ∀ x, EvC G F (sB x) c (tc x)) (he : ∀ x, Ev G F (sB x) elt (Pv (α := β)) (te x)) :
    EvM G F sh (.lc true own elt tg it c) (ml (α := β)) (tl.bind fun xs => Rs.comp tc te xs) := by
  intro W ρ M Q r w
  unfold wpE
  refine hi W ρ M _ r (Rs.wp_mono (fun xs q g M1 r1 hg => ?_) (fun _ q => q) (Rs.wp_bind.mp w))
  refine lc_core hn hb hm hc he hg xs [] M1 r1 (Rs.wp_mono (fun ys q M' r' => ?_) (fun _ q => q) q)
  exact fun p hp => q p M' r' hp
theorem EvM.lst [Tc α] {es : EL} {ts : Rs (List α)} (hs : EvL G F sh es (fun (l : List α) _ _ ds => ds = l.map Tc.d) ts) : EvM G F sh (.lst true es) (ml (α := α)) ts := by
  intro W ρ M Q r w
  unfold wpE
  refine hs W ρ M _ r (Rs.wp_mono (fun a q xs M1 r1 p1 => ?_) (fun _ q => q) w)
  cases p1 M1 r1
  exact fun p hp => q p M1 r1 hp
theorem EvM.list [Tc α] {t : Rs (List α)} (h : Ev G F sh e (Ps (α := α)) t) : EvM G F sh (.bty true .list (.cons e .nil)) (ml (α := α)) t := by
  intro W ρ M Q r w
  show wpE G W e ρ M fun x M1 => btyD true .list [x] M1 Q
  refine h W ρ M _ r (Rs.wp_mono (fun l q x M' r' p => ?_) (fun _ q => q) w)
  have p : sqOf M' x = some (l.map Tc.d) := p M' r'
  have key : (match sqOf M' x with | some ds => newL true ds M' Q | none => False) := by rw [p]; exact fun a ha => q a M' r' ha
  cases x <;> first | exact key | cases p
theorem EvM.call {A : Type} [Arg A] {k : Nat} {es : EL} {o : β → MO} {t : A → Rs β} {ts : Rs A} (hG : nth G.fn k = some (Arg.len A, spM o t)) (hs : EvL G F sh es (Arg.P (A := A)) ts) : EvM G F sh (.call k es) o (ts.bind t) := by
  intro W ρ M Q r w
  unfold wpE
  rw [hG]
  refine hs W ρ M _ r (Rs.wp_mono (fun a q xs M1 r1 p1 => ?_) (fun _ q => q) (Rs.wp_bind.mp w))
  refine ⟨Arg.n a F.dr M1 xs (p1 M1 r1), F.dr, a, drIn r1, fun M' h => p1 M' (r1.mono h), Rs.wp_mono (fun v q p M' h hp => ?_) (fun x q M' h => q M' (r1.mono h)) q⟩
  exact q p M' (r1.mono h) hp
theorem EvM.slL [Tc α] {t : Rs (List α)} {lo hi : EO} {tl th : Rs (Option Int)} (h1 : Ev G F sh e (Pl (α := α)) t) (h2 : EvO G F sh lo tl) (h3 : EvO G F sh hi th) : EvM G F sh (.sl true e lo hi) (ml (α := α)) (t.bind fun x => tl.bind fun l => th.bind fun h => .ok (cutD x l h)) := by
  intro W ρ M Q r w
  unfold wpE
  refine h1 W ρ M _ r (Rs.wp_mono (fun a q x M1 r1 p1 => ?_) (fun _ q => q) (Rs.wp_bind.mp w))
  refine h2 W ρ M1 _ r1 (Rs.wp_mono (fun l q M2 r2 => ?_) (fun _ q => q) (Rs.wp_bind.mp q))
  refine h3 W ρ M2 _ r2 (Rs.wp_mono (fun h q M3 r3 => ?_) (fun _ q => q) (Rs.wp_bind.mp q))
  have p : lsOf M3 x = some (a.map Tc.d) := p1 M3 r3
  have key : (match lsOf M3 x with | some ds => newL true (cutD ds l h) M3 Q | none => False) := by
    rw [p]; intro z hz
    have := q z M3 r3 hz
    unfold ml at this
    rwa [← cutD_map] at this
  cases x <;> first | exact key | cases p
end
end DS

/-! MR8: statements -/
namespace DS
open PySem PySem.Spec PyProof.Rows L2
/-- how a block may end -/
inductive Lf where
  | nx (sh : List Sl) | rt (P : PP) | rtm (o : MO) | bk (sh : List Sl)
  /-- the next turn -/
  | nc (sh : List Sl)
def Lf.sat (F : Fr) (R : EndsD) : Lf → Prop
  | .nx sh => ∀ ρ M, Rel F sh ρ M → R.nx ρ M
  | .nc sh => ∀ ρ M, Rel F sh ρ M → R.nx ρ M ∧ R.ct ρ M
  | .bk sh => ∀ ρ M, Rel F sh ρ M → R.bk ρ M
  | .rt P => ∀ x M, FrOk F M → (∀ M'', FrOk F M'' → P F.dr M'' x) → R.rt x M
  | .rtm o => ∀ p M, FrOk F M → M p = none → F.M0 p = none → R.rt (.ref p) (mset M p o)
/-- the block's worth: from sh, exceptions at xs -/
def Sv (G : Gam) (F : Fr) (xs : List Sl) {γ : Type} (ss : SL) (sh : List Sl) (t : Rs γ) (lf : γ → Lf) : Prop :=
  ∀ (W : XW) (R : EndsD) (ρ : Env1) (M : Mp), Rel F sh ρ M → t.wp (fun c => (lf c).sat F R) (fun x => ∀ ρ' M', Rel F xs ρ' M' → W x ρ' M') → wpSs' ss G W R ρ M
def slApp : SL → SL → SL
  | .nil, b => b
  | .cons s a, b => .cons s (slApp a b)
theorem slApp_wp {G : Gam} {W : XW} : ∀ (a b : SL) {R : EndsD} {ρ : Env1} {M : Mp}, wpSs' (slApp a b) G W R ρ M = wpSs' a G W { R with nx := wpSs' b G W R } ρ M
  | .nil, b, R, ρ, M => by rw [slApp]; simp only [wpSs']
  | .cons s a, b, R, ρ, M => by
    rw [slApp]
    simp only [wpSs']
    congr 1
    have : wpSs' (slApp a b) G W R = wpSs' a G W { R with nx := wpSs' b G W R } := by funext ρ M; exact slApp_wp a b
    rw [this]
section
variable {G : Gam} {F : Fr} {xs sh : List Sl} {α β γ δ σ : Type} {e e1 e2 : E} {ss : SL} {lf : γ → Lf}
theorem wpSs_cons {W : XW} {s : S} {R : EndsD} {ρ : Env1} {M : Mp} : wpSs' (.cons s ss) G W R ρ M = wpS s G W { R with nx := wpSs' ss G W R } ρ M := by simp only [wpSs']
theorem Sv.weak {sh' : List Sl} {t : Rs γ} (h : Sv G F xs ss sh' t lf) (w : Wk sh sh') : Sv G F xs ss sh t lf := fun W R ρ M r k => h W R ρ M (r.wk w) k
theorem Sv.nil {sh' : List Sl} {c : γ} (h : lf c = .nx sh' ∨ lf c = .nc sh') (w : Wk sh sh') : Sv G F xs .nil sh (.ok c) lf := by
  intro W R ρ M r k
  simp only [wpSs']
  have k : (lf c).sat F R := k
  rcases h with h | h
  · rw [h] at k; exact k ρ M (r.wk w)
  · rw [h] at k; exact (k ρ M (r.wk w)).1
theorem Sv.cont {sh' : List Sl} {c : γ} (h : lf c = .nc sh') (w : Wk sh sh') : Sv G F xs (.cons .cont ss) sh (.ok c) lf := by
  intro W R ρ M r k
  rw [wpSs_cons]; unfold wpS
  have k : (lf c).sat F R := k
  rw [h] at k; exact (k ρ M (r.wk w)).2
theorem Sv.brk {sh' : List Sl} {c : γ} (h : lf c = .bk sh') (w : Wk sh sh') : Sv G F xs (.cons .brk ss) sh (.ok c) lf := by
  intro W R ρ M r k
  rw [wpSs_cons]; unfold wpS
  have k : (lf c).sat F R := k
  rw [h] at k; exact k ρ M (r.wk w)
theorem Sv.pass {t : Rs γ} (h : Sv G F xs ss sh t lf) : Sv G F xs (.cons .pass ss) sh t lf := by
  intro W R ρ M r k
  rw [wpSs_cons]; unfold wpS
  exact h W R ρ M r k
/-- x = e -/
theorem Sv.asg {P : α → PP} {i : Nat} {t1 : Rs α} {t2 : α → Rs γ} (hi : Nat.blt i sh.length = true) (wx : Wk sh xs) (h1 : Ev G F sh e P t1)
    (hs : ∀ v x (M : Mp) (ρ : Env1), Rel F sh ρ M → (∀ M'', Rel F sh ρ M'' → P v F.dr M'' x) → ∀ M', FrOk F M' → P v F.dr M' x)
    (h2 : ∀ v, Sv G F xs ss (sh.set i (.ar (P v))) (t2 v) lf) : Sv G F xs (.cons (.asg (.v i) e) ss) sh (t1.bind t2) lf := by
  intro W R ρ M r k
  rw [wpSs_cons]; unfold wpS
  refine h1 W ρ M _ r (Rs.wp_mono (fun v q x M' r' p => ?_) (fun x q M' r' => q ρ M' (r'.wk wx)) (Rs.wp_bind.mp k))
  unfold bindT
  exact h2 v W R _ M' (r'.set (lt_n r' hi) (hs v x M' ρ r' p)) q
theorem Sv.let [Tc α] {i : Nat} {v : α} {t : Rs γ} (hi : Nat.blt i sh.length = true) (h1 : Ev G F sh e (Pv (α := α)) (.ok v)) (h2 : Sv G F xs ss (sh.set i (.ar (Pv v))) t lf) : Sv G F xs (.cons (.asg (.v i) e) ss) sh t lf := by
  intro W R ρ M r k
  rw [wpSs_cons]; unfold wpS
  refine h1 W ρ M _ r ?_
  intro x M' r' p
  cases p M' r'
  unfold bindT
  exact h2 W R _ M' (r'.set (lt_n r' hi) fun _ _ => rfl) k
theorem Sv.bnd [Tc α] {i : Nat} {t1 : Rs α} {t2 : α → Rs γ} (hi : Nat.blt i sh.length = true) (wx : Wk sh xs) (h1 : Ev G F sh e (Pv (α := α)) t1) (h2 : ∀ v, Sv G F xs ss (sh.set i (.ar (Pv v))) (t2 v) lf) : Sv G F xs (.cons (.asg (.v i) e) ss) sh (t1.bind t2) lf := by
  intro W R ρ M r k
  rw [wpSs_cons]; unfold wpS
  refine h1 W ρ M _ r (Rs.wp_mono (fun v q x M' r' p => ?_) (fun x q M' r' => q ρ M' (r'.wk wx)) (Rs.wp_bind.mp k))
  cases p M' r'
  unfold bindT
  exact h2 v W R _ M' (r'.set (lt_n r' hi) fun _ _ => rfl) q
/-- .. by a comprehension's store -/
theorem Sv.letc [Tc α] {i : Nat} {v : α} {t : Rs γ} (hi : Nat.blt i sh.length = true) (h1 : Ev G F sh e (Pv (α := α)) (.ok v)) (h2 : Sv G F xs ss (sh.set i (.ar (Pv v))) t lf) : Sv G F xs (.cons (.asgc i e) ss) sh t lf := by
  intro W R ρ M r k
  rw [wpSs_cons]; unfold wpS
  refine h1 W ρ M _ r ?_
  intro x M' r' p
  cases p M' r'
  exact h2 W R _ M' (r'.set (lt_n r' hi) fun _ _ => rfl) k
theorem Sv.bndc [Tc α] {i : Nat} {t1 : Rs α} {t2 : α → Rs γ} (hi : Nat.blt i sh.length = true) (wx : Wk sh xs) (h1 : Ev G F sh e (Pv (α := α)) t1) (h2 : ∀ v, Sv G F xs ss (sh.set i (.ar (Pv v))) (t2 v) lf) : Sv G F xs (.cons (.asgc i e) ss) sh (t1.bind t2) lf := by
  intro W R ρ M r k
  rw [wpSs_cons]; unfold wpS
  refine h1 W ρ M _ r (Rs.wp_mono (fun v q x M' r' p => ?_) (fun x q M' r' => q ρ M' (r'.wk wx)) (Rs.wp_bind.mp k))
  cases p M' r'
  exact h2 v W R _ M' (r'.set (lt_n r' hi) fun _ _ => rfl) q
/-- a, b = e -/
theorem Sv.tup [Tc α] {tg : TG1} {t1 : Rs α} {t2 : α → Rs γ} {sB : α → List Sl} (wx : Wk sh xs) (h1 : Ev G F sh e (Pv (α := α)) t1) (hb : ∀ v, Bd G F tg (Tc.d v) sh (sB v)) (h2 : ∀ v, Sv G F xs ss (sB v) (t2 v) lf) : Sv G F xs (.cons (.asg tg e) ss) sh (t1.bind t2) lf := by
  intro W R ρ M r k
  rw [wpSs_cons]; unfold wpS
  refine h1 W ρ M _ r (Rs.wp_mono (fun v q x M' r' p => ?_) (fun x q M' r' => q ρ M' (r'.wk wx)) (Rs.wp_bind.mp k))
  cases p M' r'
  exact hb v W ρ M' _ r' fun ρ' r'' _ => h2 v W R _ M' r'' q
/-- a new object that may be changed -/
theorem Sv.mk {i : Nat} {o : α → MO} {t1 : Rs α} {t2 : α → Rs γ} (hi : Nat.blt i sh.length = true) (wx : Wk sh xs) (h1 : EvM G F sh e o t1) (h2 : ∀ v, Sv G F xs ss (sh.set i (.mu true (o v))) (t2 v) lf) : Sv G F xs (.cons (.asg (.v i) e) ss) sh (t1.bind t2) lf := by
  intro W R ρ M r k
  rw [wpSs_cons]; unfold wpS
  refine h1 W ρ M _ r (Rs.wp_mono (fun v q p M' r' hp => ?_) (fun x q M' r' => q ρ M' (r'.wk wx)) (Rs.wp_bind.mp k))
  unfold bindT
  exact h2 v W R _ _ (r'.new (lt_n r' hi) hp) q
theorem Sv.mkc {i : Nat} {o : α → MO} {t1 : Rs α} {t2 : α → Rs γ} (hi : Nat.blt i sh.length = true) (wx : Wk sh xs) (h1 : EvM G F sh e o t1) (h2 : ∀ v, Sv G F xs ss (sh.set i (.mu true (o v))) (t2 v) lf) : Sv G F xs (.cons (.asgc i e) ss) sh (t1.bind t2) lf := by
  intro W R ρ M r k
  rw [wpSs_cons]; unfold wpS
  refine h1 W ρ M _ r (Rs.wp_mono (fun v q p M' r' hp => ?_) (fun x q M' r' => q ρ M' (r'.wk wx)) (Rs.wp_bind.mp k))
  exact h2 v W R _ _ (r'.new (lt_n r' hi) hp) q
theorem Sv.mkl {i : Nat} {o : α → MO} {v : α} {t : Rs γ} (hi : Nat.blt i sh.length = true) (h1 : EvM G F sh e o (.ok v)) (h2 : Sv G F xs ss (sh.set i (.mu true (o v))) t lf) : Sv G F xs (.cons (.asg (.v i) e) ss) sh t lf := by
  intro W R ρ M r k
  rw [wpSs_cons]; unfold wpS
  refine h1 W ρ M _ r ?_
  intro p M' r' hp
  unfold bindT
  exact h2 W R _ _ (r'.new (lt_n r' hi) hp) k
theorem Sv.mkcl {i : Nat} {o : α → MO} {v : α} {t : Rs γ} (hi : Nat.blt i sh.length = true) (h1 : EvM G F sh e o (.ok v)) (h2 : Sv G F xs ss (sh.set i (.mu true (o v))) t lf) : Sv G F xs (.cons (.asgc i e) ss) sh t lf := by
  intro W R ρ M r k
  rw [wpSs_cons]; unfold wpS
  refine h1 W ρ M _ r ?_
  intro p M' r' hp
  exact h2 W R _ _ (r'.new (lt_n r' hi) hp) k
theorem Sv.tupl [Tc α] {tg : TG1} {v : α} {t : Rs γ} {sB : List Sl} (h1 : Ev G F sh e (Pv (α := α)) (.ok v)) (hb : Bd G F tg (Tc.d v) sh sB) (h2 : Sv G F xs ss sB t lf) : Sv G F xs (.cons (.asg tg e) ss) sh t lf := by
  intro W R ρ M r k
  rw [wpSs_cons]; unfold wpS
  refine h1 W ρ M _ r ?_
  intro x M' r' p
  cases p M' r'
  exact hb W ρ M' _ r' fun ρ' r'' _ => h2 W R _ M' r'' k
/-- from here on it is only read -/
theorem Sv.fzl [Tc α] {i : Nat} {l : List α} {t : Rs γ} (hm : nth sh i = some (.mu true (ml l))) (h2 : Sv G F xs ss (sh.set i (.ar (Pv (Li.mk l)))) t lf) : Sv G F xs (.cons (.fz i) ss) sh t lf := by
  intro W R ρ M r k
  rw [wpSs_cons]; unfold wpS
  obtain ⟨a, h3, h4, _⟩ := r.sl i _ hm
  rw [h3]
  simp only [h4, ml]
  exact h2 W R _ _ (r.fz hm h3 fun _ _ => rfl) k
theorem Sv.fzd {κ : Type} [DecidableEq κ] [Tc κ] [Kc κ] [Tc α] {i : Nat} {l : List (κ × α)} {t : Rs γ} (hm : nth sh i = some (.mu true (md l))) (h2 : Sv G F xs ss (sh.set i (.ar (Pv (Di.mk l)))) t lf) : Sv G F xs (.cons (.fz i) ss) sh t lf := by
  intro W R ρ M r k
  rw [wpSs_cons]; unfold wpS
  obtain ⟨a, h3, h4, _⟩ := r.sl i _ hm
  rw [h3]
  simp only [h4, md]
  exact h2 W R _ _ (r.fz hm h3 fun _ _ => rfl) k
/-- e alone -/
theorem Sv.ex {P : α → PP} {t1 : Rs α} {t2 : Rs γ} (wx : Wk sh xs) (h1 : Ev G F sh e P t1) (h2 : Sv G F xs ss sh t2 lf) : Sv G F xs (.cons (.ex e) ss) sh (t1.bind fun _ => t2) lf := by
  intro W R ρ M r k
  rw [wpSs_cons]; unfold wpS
  refine h1 W ρ M _ r (Rs.wp_mono (fun v q x M' r' p => ?_) (fun x q M' r' => q ρ M' (r'.wk wx)) (Rs.wp_bind.mp k))
  exact h2 W R _ M' r' q
/-- return e -/
theorem Sv.ret [Tc α] {t : Rs α} {lf : α → Lf} (wx : Wk sh xs) (hl : ∀ v, lf v = .rt (Pv v)) (h1 : Ev G F sh e (Pv (α := α)) t) : Sv G F xs (.cons (.ret e) ss) sh t lf := by
  intro W R ρ M r k
  rw [wpSs_cons]; unfold wpS
  refine h1 W ρ M _ r (Rs.wp_mono (fun v q x M' r' p => ?_) (fun x q M' r' => q ρ M' (r'.wk wx)) k)
  cases p M' r'
  rw [hl] at q
  exact q _ M' r'.fr fun _ _ => rfl
/-- .. out of a loop -/
theorem Sv.retg [Tc α] {t : Rs α} (g : α → γ) (wx : Wk sh xs) (hl : ∀ v, lf (g v) = .rt (Pv v)) (h1 : Ev G F sh e (Pv (α := α)) t) : Sv G F xs (.cons (.ret e) ss) sh (t.bind fun v => .ok (g v)) lf := by
  intro W R ρ M r k
  rw [wpSs_cons]; unfold wpS
  refine h1 W ρ M _ r (Rs.wp_mono (fun v q x M' r' p => ?_) (fun x q M' r' => q ρ M' (r'.wk wx)) (Rs.wp_bind.mp k))
  cases p M' r'
  have q : (lf (g v)).sat F R := q
  rw [hl] at q
  exact q _ M' r'.fr fun _ _ => rfl
theorem Sv.retM {o : α → MO} {t : Rs α} {lf : α → Lf} (wx : Wk sh xs) (hl : ∀ v, lf v = .rtm (o v)) (h1 : EvM G F sh e o t) : Sv G F xs (.cons (.ret e) ss) sh t lf := by
  intro W R ρ M r k
  rw [wpSs_cons]; unfold wpS
  refine h1 W ρ M _ r (Rs.wp_mono (fun v q p M' r' hp => ?_) (fun x q M' r' => q ρ M' (r'.wk wx)) k)
  rw [hl] at q
  exact q p M' r'.fr hp (r'.fresh hp).1
/-- return x, x of our own making -/
theorem Sv.retMv {i : Nat} {o : MO} {c : γ} (hm : nth sh i = some (.mu true o)) (hl : lf c = .rtm o) : Sv G F xs (.cons (.ret (.var i)) ss) sh (.ok c) lf := by
  intro W R ρ M r k
  rw [wpSs_cons]; unfold wpS wpE
  obtain ⟨a, h3, h4, h5⟩ := r.sl i _ hm
  rw [h3]
  have k : (lf c).sat F R := k
  rw [hl] at k
  have r2 := r.fz (P := fun _ _ _ => True) (x := .non) hm h3 fun _ _ => trivial
  have q := k a _ r2.fr mdel_same h5
  have e : mset (mdel M a) a o = M := by
    funext b
    by_cases hb : b = a
    · subst hb; rw [mset_same, h4]
    · rw [mset_ne hb, mdel_ne hb]
  rw [e] at q
  exact q
/-- return -/
theorem Sv.retN {c : γ} (hl : lf c = .rt (Pv ())) : Sv G F xs (.cons .retN ss) sh (.ok c) lf := by
  intro W R ρ M r k
  rw [wpSs_cons]; unfold wpS
  have k : (lf c).sat F R := k
  rw [hl] at k
  exact k _ M r.fr fun _ _ => rfl
/-- x op= e -/
theorem Sv.aug {i : Nat} {op : Operator} {v : Int} {tj : Rs Int} {t2 : Int → Rs γ} (f : Int → Int → Rs Int) (hop : ∀ i j M Q X, (f i j).wp (fun v => Q (D.int v) M) X → augD op (.int i) (.int j) M Q)
    (hm : nth sh i = some (.ar (Pv v))) (wx : Wk sh xs) (h1 : Ev G F sh e (Pv (α := Int)) tj) (h2 : ∀ v, Sv G F xs ss (sh.set i (.ar (Pv v))) (t2 v) lf) : Sv G F xs (.cons (.aug i op e) ss) sh (tj.bind fun y => (f v y).bind t2) lf := by
  intro W R ρ M r k
  rw [wpSs_cons]; unfold wpS
  obtain ⟨x, h3, h4⟩ := r.sl i _ hm
  have hx : x = .int v := h4 M r.fr
  subst hx
  rw [h3]
  refine h1 W ρ M _ r (Rs.wp_mono (fun y q z M' r' p => ?_) (fun x q M' r' => q ρ M' (r'.wk wx)) (Rs.wp_bind.mp k))
  cases p M' r'
  refine hop v y M' _ _ (Rs.wp_mono (fun u q => ?_) (fun _ q => q) (Rs.wp_bind.mp q))
  exact h2 u W R _ M' (r'.set (Nat.lt_of_lt_of_le (nth_lt hm) r'.le) fun _ _ => rfl) q
/-- .. of which nothing can go wrong -/
theorem Sv.augP {i : Nat} {op : Operator} {v y z : Int} {t : Rs γ} (hop : ∀ M Q, Q (D.int z) M → augD op (.int v) (.int y) M Q)
    (hm : nth sh i = some (.ar (Pv v))) (h1 : Ev G F sh e (Pv (α := Int)) (.ok y)) (h2 : Sv G F xs ss (sh.set i (.ar (Pv z))) t lf) : Sv G F xs (.cons (.aug i op e) ss) sh t lf := by
  intro W R ρ M r k
  rw [wpSs_cons]; unfold wpS
  obtain ⟨x, h3, h4⟩ := r.sl i _ hm
  have hx : x = .int v := h4 M r.fr
  subst hx
  rw [h3]
  refine h1 W ρ M _ r ?_
  intro x M' r' p
  cases p M' r'
  refine hop M' _ ?_
  exact h2 W R _ M' (r'.set (Nat.lt_of_lt_of_le (nth_lt hm) r'.le) fun _ _ => rfl) k
/-- xs.append(e) -/
def appR (l : List α) (v : α) : Rs (List α) := gd (l.length < 16777216) (l ++ [v])
theorem Sv.app [Tc α] {i : Nat} {loc : Bool} {l : List α} {t1 : Rs α} {t2 : List α → Rs γ} (hm : nth sh i = some (.mu loc (ml l))) (wx : Wk sh xs) (h1 : Ev G F sh e (Pv (α := α)) t1) (h2 : ∀ l', Sv G F xs ss (sh.set i (.mu loc (ml l'))) (t2 l') lf) :
    Sv G F xs (.cons (.ex (.bm .append (.var i) (.cons e .nil))) ss) sh (t1.bind fun v => (appR l v).bind t2) lf := by
  intro W R ρ M r k
  rw [wpSs_cons]; unfold wpS
  obtain ⟨a, h3, h4, _⟩ := r.sl i _ hm
  have hw : ∀ K, wpE G W (.bm .append (.var i) (.cons e .nil)) ρ M K = (match slot ρ i with | some d => bmTy .append M d ∧ wpE G W e ρ M (fun d1 M1 => bmD .append d [d1] M1 K) | none => False) := fun _ => rfl
  rw [hw, h3]
  refine ⟨?_, h1 W ρ M _ r (Rs.wp_mono (fun v q x M' r' p => ?_) (fun x q M' r' => q ρ M' (r'.wk wx)) (Rs.wp_bind.mp k))⟩
  · show (lsOf M (.ref a)).isSome = true
    show (match M a with | some (.lst ds) => some ds | _ => none).isSome = true
    rw [h4]; rfl
  · cases p M' r'
    obtain ⟨hz, q⟩ := gd_wp (Rs.wp_bind.mp q)
    obtain ⟨a', h3', h4', _⟩ := r'.sl i _ hm
    rw [h3] at h3'; cases h3'
    show (match M' a with | some (.lst ds) => ds.length < sizeLine ∧ wpSs' ss G W R ρ (mset M' a (.lst (ds ++ [Tc.d v]))) | _ => False)
    rw [h4']
    refine ⟨by rw [List.length_map]; exact hz, ?_⟩
    have := h2 (l ++ [v]) W R ρ (mset M' a (ml (l ++ [v]))) (r'.wr hm h3) q
    unfold ml at this
    rwa [List.map_append] at this
theorem Sv.appP [Tc α] {i : Nat} {loc : Bool} {l : List α} {v : α} {t2 : List α → Rs γ} (hm : nth sh i = some (.mu loc (ml l))) (wx : Wk sh xs) (h1 : Ev G F sh e (Pv (α := α)) (.ok v)) (h2 : ∀ l', Sv G F xs ss (sh.set i (.mu loc (ml l'))) (t2 l') lf) :
    Sv G F xs (.cons (.ex (.bm .append (.var i) (.cons e .nil))) ss) sh ((appR l v).bind t2) lf := Sv.app hm wx h1 h2
/-- xs.extend(e) -/
theorem Sv.ext [Tc α] {i j : Nat} {loc : Bool} {l : List α} {l2 : List α} {t2 : List α → Rs γ} (hm : nth sh i = some (.mu loc (ml l))) {loc2 : Bool} (hn : nth sh j = some (.mu loc2 (ml l2))) (h2 : ∀ l', Sv G F xs ss (sh.set i (.mu loc (ml l'))) (t2 l') lf) :
    Sv G F xs (.cons (.ex (.bm .extend (.var i) (.cons (.var j) .nil))) ss) sh ((catR l l2).bind t2) lf := by
  intro W R ρ M r k
  rw [wpSs_cons]; unfold wpS
  obtain ⟨a, h3, h4, _⟩ := r.sl i _ hm
  obtain ⟨b, h5, h6, _⟩ := r.sl j _ hn
  have hw : wpE G W (.bm .extend (.var i) (.cons (.var j) .nil)) ρ M (fun _ M1 => wpSs' ss G W R ρ M1) = (bmTy .extend M (.ref a) ∧ bmD .extend (.ref a) [.ref b] M fun _ M1 => wpSs' ss G W R ρ M1) := by
    unfold wpE; unfold wpE; rw [h3]
    show (bmTy .extend M (.ref a) ∧ wpL G W (.cons (.var j) .nil) ρ M _) = _
    unfold wpL; unfold wpE; rw [h5]; rfl
  rw [hw]
  obtain ⟨hz, q⟩ := gd_wp (Rs.wp_bind.mp k)
  refine ⟨?_, ?_⟩
  · show (match M a with | some (.lst ds) => some ds | _ => none).isSome = true
    rw [h4]; rfl
  · show (match M a with | some (.lst ds) => (match M b with | some (.lst es) => ds.length + es.length ≤ sizeLine ∧ wpSs' ss G W R ρ (mset M a (.lst (ds ++ es))) | _ => False) | _ => False)
    rw [h4, h6]
    refine ⟨by rw [List.length_map, List.length_map]; exact hz, ?_⟩
    have := h2 (l ++ l2) W R ρ (mset M a (ml (l ++ l2))) (r.wr hm h3) q
    unfold ml at this
    rwa [List.map_append] at this
/-- xs[k] = e -/
def setR (l : List α) (k : Int) (v : α) : Rs (List α) := match L2.ixN l.length k with
  | some j => .ok (l.set j v)
  | none => .no
theorem Sv.setl [Tc α] {i : Nat} {loc : Bool} {l : List α} {t1 : Rs α} {tk : Rs Int} {t2 : List α → Rs γ} (hm : nth sh i = some (.mu loc (ml l))) (wx : Wk sh xs) (h1 : Ev G F sh e (Pv (α := α)) t1) (hk : Ev G F sh e1 (Pv (α := Int)) tk) (h2 : ∀ l', Sv G F xs ss (sh.set i (.mu loc (ml l'))) (t2 l') lf) :
    Sv G F xs (.cons (.asg (.sub (.var i) e1) e) ss) sh (t1.bind fun v => tk.bind fun k => (setR l k v).bind t2) lf := by
  intro W R ρ M r k
  rw [wpSs_cons]; unfold wpS
  refine h1 W ρ M _ r (Rs.wp_mono (fun v q x M' r' p => ?_) (fun x q M' r' => q ρ M' (r'.wk wx)) (Rs.wp_bind.mp k))
  cases p M' r'
  unfold bindT wpE
  obtain ⟨a, h3, h4, _⟩ := r'.sl i _ hm
  rw [h3]
  refine hk W ρ M' _ r' (Rs.wp_mono (fun n q y M2 r2 p2 => ?_) (fun x q M' r' => q ρ M' (r'.wk wx)) (Rs.wp_bind.mp q))
  cases p2 M2 r2
  obtain ⟨a', h3', h4', _⟩ := r2.sl i _ hm
  rw [h3] at h3'; cases h3'
  show (match M2 a with
    | some (.lst ds) => (match L2.ixN ds.length n with | some j => wpSs' ss G W R ρ (mset M2 a (.lst (ds.set j (Tc.d v)))) | none => False)
    | some (.dic kvs) => (match keyD (.int n) with | some k => kvs.length < sizeLine ∧ wpSs' ss G W R ρ (mset M2 a (.dic (putKD kvs k (Tc.d v)))) | none => False)
    | _ => False)
  rw [h4']
  show (match L2.ixN (l.map Tc.d).length n with | some j => wpSs' ss G W R ρ (mset M2 a (.lst ((l.map Tc.d).set j (Tc.d v)))) | none => False)
  rw [List.length_map]
  unfold setR at q
  cases e : L2.ixN l.length n with
  | none => rw [e] at q; exact q.elim
  | some j =>
    rw [e] at q
    have := h2 (l.set j v) W R ρ (mset M2 a (ml (l.set j v))) (r2.wr hm h3) q
    unfold ml at this
    rwa [List.map_set] at this
/-- d[k] = e -/
def putR {κ : Type} [DecidableEq κ] (l : List (κ × α)) (k : κ) (v : α) : Rs (List (κ × α)) := gd (l.length < 16777216) (dput l k v)
theorem Sv.put {κ : Type} [DecidableEq κ] [Tc κ] [Kc κ] [Tc α] {i : Nat} {loc : Bool} {l : List (κ × α)} {t1 : Rs α} {tk : Rs κ} {t2 : List (κ × α) → Rs γ} (hm : nth sh i = some (.mu loc (md l))) (wx : Wk sh xs) (h1 : Ev G F sh e (Pv (α := α)) t1) (hk : Ev G F sh e1 (Pv (α := κ)) tk) (h2 : ∀ l', Sv G F xs ss (sh.set i (.mu loc (md l'))) (t2 l') lf) :
    Sv G F xs (.cons (.asg (.sub (.var i) e1) e) ss) sh (t1.bind fun v => tk.bind fun k => (putR l k v).bind t2) lf := by
  intro W R ρ M r k
  rw [wpSs_cons]; unfold wpS
  refine h1 W ρ M _ r (Rs.wp_mono (fun v q x M' r' p => ?_) (fun x q M' r' => q ρ M' (r'.wk wx)) (Rs.wp_bind.mp k))
  cases p M' r'
  unfold bindT wpE
  obtain ⟨a, h3, h4, _⟩ := r'.sl i _ hm
  rw [h3]
  refine hk W ρ M' _ r' (Rs.wp_mono (fun n q y M2 r2 p2 => ?_) (fun x q M' r' => q ρ M' (r'.wk wx)) (Rs.wp_bind.mp q))
  cases p2 M2 r2
  obtain ⟨a', h3', h4', _⟩ := r2.sl i _ hm
  rw [h3] at h3'; cases h3'
  have key : (match keyD (Tc.d n) with | some k => (l.map kvD).length < sizeLine ∧ wpSs' ss G W R ρ (mset M2 a (.dic (putKD (l.map kvD) k (Tc.d v)))) | none => False) := by
    rw [Kc.kd]
    obtain ⟨hz, q⟩ := gd_wp (Rs.wp_bind.mp q)
    refine ⟨by rw [List.length_map]; exact hz, ?_⟩
    rw [put_map]
    exact h2 (dput l n v) W R ρ _ (r2.wr hm h3) q
  show (match M2 a with
    | some (.lst ds) => (match (Tc.d n : D) with
      | .int k => (match L2.ixN ds.length k with | some j => wpSs' ss G W R ρ (mset M2 a (.lst (ds.set j (Tc.d v)))) | none => False)
      | _ => False)
    | some (.dic kvs) => (match keyD (Tc.d n) with | some k => kvs.length < sizeLine ∧ wpSs' ss G W R ρ (mset M2 a (.dic (putKD kvs k (Tc.d v)))) | none => False)
    | _ => False)
  rw [h4']
  exact key
/-- raise C(..) -/
theorem Sv.raise {A : Type} {i : Nat} {c : Str} {fs : List Str} {es : EL} {ds : A → List D} {ts : Rs A} (hG : nth G.exc i = some (c, fs)) (wx : Wk sh xs) (hn : elLen es = fs.length) (hs : EvL G F sh es (fun a _ _ xs => xs = ds a) ts) (hl : ∀ a, (ds a).length = fs.length) : Sv G F xs (.cons (.raise i es) ss) sh (ts.bind fun a => .ex (c, fs.zip (ds a))) lf := by
  intro W R ρ M r k
  rw [wpSs_cons]; unfold wpS
  rw [hG]
  refine hs W ρ M _ r (Rs.wp_mono (fun v q x M' r' p => ?_) (fun x q M' r' => q ρ M' (r'.wk wx)) (Rs.wp_bind.mp k))
  cases p M' r'
  exact ⟨hl v, q ρ M' (r'.wk wx)⟩
theorem Sv.raise0 {i : Nat} {c : Str} (hG : nth G.exc i = some (c, [])) (wx : Wk sh xs) : Sv G F xs (.cons (.raise i .nil) ss) sh (.ex (c, [])) lf := by
  intro W R ρ M r k
  rw [wpSs_cons]; unfold wpS
  rw [hG]
  unfold wpL
  exact ⟨rfl, k ρ M (r.wk wx)⟩
theorem Sv.ifdP {a b : SL} {c : Bool} {ta tb : Rs γ} (hc : Ev G F sh e (Pv (α := Bool)) (.ok c)) (ha : Sv G F xs (slApp a ss) sh ta lf) (hb : Sv G F xs (slApp b ss) sh tb lf) : Sv G F xs (.cons (.ifs e a b) ss) sh (if c then ta else tb) lf := by
  intro W R ρ M r k
  rw [wpSs_cons]; unfold wpS wpT
  refine hc W ρ M _ r ?_
  intro x M' r' p
  cases p M' r'
  cases c with
  | true =>
    have := ha W R ρ M' r' k
    rw [slApp_wp] at this
    exact this
  | false =>
    have := hb W R ρ M' r' k
    rw [slApp_wp] at this
    exact this
/-- if: what follows stands in both -/
theorem Sv.ifd {a b : SL} {tc : Rs Bool} {ta tb : Rs γ} (wx : Wk sh xs) (hc : Ev G F sh e (Pv (α := Bool)) tc) (ha : Sv G F xs (slApp a ss) sh ta lf) (hb : Sv G F xs (slApp b ss) sh tb lf) : Sv G F xs (.cons (.ifs e a b) ss) sh (tc.bind fun k => if k then ta else tb) lf := by
  intro W R ρ M r k
  rw [wpSs_cons]; unfold wpS wpT
  refine hc W ρ M _ r (Rs.wp_mono (fun v q x M' r' p => ?_) (fun x q M' r' => q ρ M' (r'.wk wx)) (Rs.wp_bind.mp k))
  cases p M' r'
  cases v with
  | true =>
    have := ha W R ρ M' r' q
    rw [slApp_wp] at this
    exact this
  | false =>
    have := hb W R ρ M' r' q
    rw [slApp_wp] at this
    exact this
/-- if: the ways meet again -/
theorem Sv.ifj {a b : SL} {tc : Rs Bool} {ta tb : Rs σ} {t2 : σ → Rs γ} (post : σ → List Sl) (wx : Wk sh xs) (hc : Ev G F sh e (Pv (α := Bool)) tc) (ha : Sv G F xs a sh ta fun s => .nx (post s)) (hb : Sv G F xs b sh tb fun s => .nx (post s)) (h2 : ∀ s, Sv G F xs ss (post s) (t2 s) lf) :
    Sv G F xs (.cons (.ifs e a b) ss) sh (tc.bind fun k => (if k then ta else tb).bind t2) lf := by
  intro W R ρ M r k
  rw [wpSs_cons]; unfold wpS wpT
  refine hc W ρ M _ r (Rs.wp_mono (fun v q x M' r' p => ?_) (fun x q M' r' => q ρ M' (r'.wk wx)) (Rs.wp_bind.mp k))
  cases p M' r'
  cases v with
  | true => exact ha W _ ρ M' r' (Rs.wp_mono (fun s q ρ' M2 r2 => h2 s W R ρ' M2 r2 q) (fun _ q => q) (Rs.wp_bind.mp q))
  | false => exact hb W _ ρ M' r' (Rs.wp_mono (fun s q ρ' M2 r2 => h2 s W R ρ' M2 r2 q) (fun _ q => q) (Rs.wp_bind.mp q))
/-- how a block ends, by its word -/
def lfC (post : σ → List Sl) (lr : β → Lf) : Ct σ β → Lf
  | .nx s => .nx (post s)
  | .bk s => .bk (post s)
  | .rt v => lr v
def lfL (post : σ → List Sl) (lr : β → Lf) : Ct σ β → Lf
  | .nx s => .nc (post s)
  | .bk s => .bk (post s)
  | .rt v => lr v
/-- .. some of them leave -/
theorem Sv.ifx {a b : SL} {tc : Rs Bool} {ta tb : Rs (Ct σ β)} {t2 : σ → Rs γ} {lr : β → Lf} (post : σ → List Sl) (g : β → γ) (hr : ∀ v, lf (g v) = lr v) (hp : ∀ v R R', (lr v).sat F R → R.rt = R'.rt → (lr v).sat F R') (wx : Wk sh xs) (hc : Ev G F sh e (Pv (α := Bool)) tc)
    (ha : Sv G F xs a sh ta (lfC post lr)) (hb : Sv G F xs b sh tb (lfC post lr)) (h2 : ∀ s, Sv G F xs ss (post s) (t2 s) lf) :
    Sv G F xs (.cons (.ifs e a b) ss) sh (tc.bind fun k => (if k then ta else tb).bind fun c => c.el t2 (fun v => .ok (g v)) fun _ => .no) lf := by
  intro W R ρ M r k
  rw [wpSs_cons]; unfold wpS wpT
  refine hc W ρ M _ r (Rs.wp_mono (fun v q x M' r' p => ?_) (fun x q M' r' => q ρ M' (r'.wk wx)) (Rs.wp_bind.mp k))
  cases p M' r'
  have key : ∀ t : Rs (Ct σ β), (t.bind fun c => c.el t2 (fun v => Rs.ok (g v)) fun _ => Rs.no).wp (fun c => (lf c).sat F R) (fun x => ∀ ρ' M', Rel F xs ρ' M' → W x ρ' M') →
      t.wp (fun c => (lfC post lr c).sat F { R with nx := wpSs' ss G W R }) (fun x => ∀ ρ' M', Rel F xs ρ' M' → W x ρ' M') := fun t q =>
    Rs.wp_mono (fun c q => by
      cases c with
      | nx s => exact fun ρ' M2 r2 => h2 s W R ρ' M2 r2 q
      | rt v =>
        have q : (lf (g v)).sat F R := q
        rw [hr] at q
        exact hp v R _ q rfl
      | bk s => exact (q : False).elim) (fun _ q => q) (Rs.wp_bind.mp q)
  cases v with
  | true => exact ha W _ ρ M' r' (key ta q)
  | false => exact hb W _ ρ M' r' (key tb q)
/-- for: every turn goes on -/
theorem Sv.for [Tc α] {tg : TG1} {it : IT} {b : SL} {tl : Rs (List α)} {tb : σ → α → Rs σ} {t2 : σ → Rs γ} {s0 : σ} (post : σ → List Sl) (sB : σ → α → List Sl) (hi : It G F sh it tl) (wx : Wk sh xs) (w0 : Wk sh (post s0))
    (hb : ∀ s x, Bd G F tg (Tc.d x) (post s) (sB s x)) (h1 : ∀ s x, Sv G F xs b (sB s x) (tb s x) fun s => .nc (post s)) (h2 : ∀ s, Sv G F xs ss (post s) (t2 s) lf) :
    Sv G F xs (.cons (.for tg it b) ss) sh (tl.bind fun l => (Rs.fold tb l s0).bind t2) lf := by
  intro W R ρ M r k
  rw [wpSs_cons]; unfold wpS
  refine hi W ρ M _ r (Rs.wp_mono (fun l q g M1 r1 hg => ?_) (fun x q M' r' => q ρ M' (r'.wk wx)) (Rs.wp_bind.mp k))
  have go : ∀ (l : List α) (s : σ) (ρ : Env1) (M : Mp), Rel F (post s) ρ M → (Rs.fold tb l s).wp (fun s => (t2 s).wp (fun c => (lf c).sat F R) (fun x => ∀ ρ' M', Rel F xs ρ' M' → W x ρ' M')) (fun x => ∀ ρ' M', Rel F xs ρ' M' → W x ρ' M') →
      foldS (bindT G W tg) (wpSs' b G W) g (l.map Tc.d) { R with nx := wpSs' ss G W R } ρ M := by
    intro l
    induction l with
    | nil => intro s ρ M r w; exact ⟨hg M, h2 s W R ρ M r w⟩
    | cons x l ih =>
      intro s ρ M r w
      refine ⟨hg M, hb s x W ρ M _ r fun ρ1 r1 _ => ?_⟩
      refine h1 s x W _ ρ1 M r1 (Rs.wp_mono (fun s' q ρ2 M2 r2 => ?_) (fun _ q => q) (Rs.wp_bind.mp w))
      exact ⟨ih s' ρ2 M2 r2 q, ih s' ρ2 M2 r2 q⟩
  exact go l s0 ρ M1 (r1.wk w0) (Rs.wp_bind.mp q)
/-- for: a turn may leave -/
theorem Sv.forx [Tc α] {tg : TG1} {it : IT} {b : SL} {tl : Rs (List α)} {tb : σ → α → Rs (Ct σ β)} {t2 : σ → Rs γ} {s0 : σ} {lr : β → Lf} (post : σ → List Sl) (sB : σ → α → List Sl) (g : β → γ) (hr : ∀ v, lf (g v) = lr v) (hp : ∀ v R R', (lr v).sat F R → R.rt = R'.rt → (lr v).sat F R')
    (hi : It G F sh it tl) (wx : Wk sh xs) (w0 : Wk sh (post s0))
    (hb : ∀ s x, Bd G F tg (Tc.d x) (post s) (sB s x)) (h1 : ∀ s x, Sv G F xs b (sB s x) (tb s x) (lfL post lr)) (h2 : ∀ s, Sv G F xs ss (post s) (t2 s) lf) :
    Sv G F xs (.cons (.for tg it b) ss) sh (tl.bind fun l => (Rs.loop tb l s0).bind fun c => c.el t2 fun v => .ok (g v)) lf := by
  intro W R ρ M r k
  rw [wpSs_cons]; unfold wpS
  refine hi W ρ M _ r (Rs.wp_mono (fun l q gg M1 r1 hg => ?_) (fun x q M' r' => q ρ M' (r'.wk wx)) (Rs.wp_bind.mp k))
  have go : ∀ (l : List α) (s : σ) (ρ : Env1) (M : Mp), Rel F (post s) ρ M → (Rs.loop tb l s).wp (fun c => (c.el t2 fun v => Rs.ok (g v)).wp (fun c => (lf c).sat F R) (fun x => ∀ ρ' M', Rel F xs ρ' M' → W x ρ' M')) (fun x => ∀ ρ' M', Rel F xs ρ' M' → W x ρ' M') →
      foldS (bindT G W tg) (wpSs' b G W) gg (l.map Tc.d) { R with nx := wpSs' ss G W R } ρ M := by
    intro l
    induction l with
    | nil => intro s ρ M r w; exact ⟨hg M, h2 s W R ρ M r w⟩
    | cons x l ih =>
      intro s ρ M r w
      refine ⟨hg M, hb s x W ρ M _ r fun ρ1 r1 _ => ?_⟩
      refine h1 s x W _ ρ1 M r1 (Rs.wp_mono (fun c q => ?_) (fun _ q => q) (Rs.wp_bind.mp w))
      cases c with
      | nx s' => exact fun ρ2 M2 r2 => ⟨ih s' ρ2 M2 r2 q, ih s' ρ2 M2 r2 q⟩
      | bk s' => exact fun ρ2 M2 r2 => h2 s' W R ρ2 M2 r2 q
      | rt v =>
        have q : (lf (g v)).sat F R := q
        rw [hr] at q
        exact hp v R _ q rfl
  exact go l s0 ρ M1 (r1.wk w0) (Rs.wp_bind.mp q)
/-- while -/
theorem Sv.while {b : SL} {tc : σ → Rs Bool} {tb : σ → Rs (Ct σ β)} {t2 : σ → Rs γ} {s0 : σ} {lr : β → Lf} {n : Nat} (post : σ → List Sl) (g : β → γ) (hr : ∀ v, lf (g v) = lr v) (hp : ∀ v R R', (lr v).sat F R → R.rt = R'.rt → (lr v).sat F R') (w0 : Wk sh (post s0)) (wx : ∀ s, Wk (post s) xs)
    (hc : ∀ s, Ev G F (post s) e (Pv (α := Bool)) (tc s)) (h1 : ∀ s, Sv G F xs b (post s) (tb s) (lfL post lr)) (h2 : ∀ s, Sv G F xs ss (post s) (t2 s) lf) :
    Sv G F xs (.cons (.while e b) ss) sh ((Rs.whileR tc tb n s0).bind fun c => c.el t2 fun v => .ok (g v)) lf := by
  intro W R ρ M r k
  rw [wpSs_cons]; unfold wpS
  refine ⟨fun m ρ M => ∃ s, Rel F (post s) ρ M ∧ (Rs.whileR tc tb m s).wp (fun c => (c.el t2 fun v => Rs.ok (g v)).wp (fun c => (lf c).sat F R) (fun x => ∀ ρ' M', Rel F xs ρ' M' → W x ρ' M')) (fun x => ∀ ρ' M', Rel F xs ρ' M' → W x ρ' M'), ⟨n, s0, r.wk w0, Rs.wp_bind.mp k⟩, ?_⟩
  rintro m ρ M ⟨s, r, w⟩
  cases m with
  | zero => exact (w : False).elim
  | succ m =>
    unfold Rs.whileR at w
    unfold wpT
    refine hc s W ρ M _ r (Rs.wp_mono (fun v q x M' r' p => ?_) (fun x q M' r' => q ρ M' (r'.wk (wx s))) (Rs.wp_bind.mp w))
    cases p M' r'
    cases v with
    | false => exact h2 s W R ρ M' r' q
    | true =>
      refine h1 s W _ ρ M' r' (Rs.wp_mono (fun c q => ?_) (fun _ q => q) (Rs.wp_bind.mp q))
      cases c with
      | nx s' => exact fun ρ2 M2 r2 => ⟨⟨m, Nat.lt_succ_self m, s', r2, q⟩, ⟨m, Nat.lt_succ_self m, s', r2, q⟩⟩
      | bk s' => exact fun ρ2 M2 r2 => h2 s' W R ρ2 M2 r2 q
      | rt v =>
        have q : (lf (g v)).sat F R := q
        rw [hr] at q
        exact hp v R _ q rfl
theorem hp_rt {P : β → PP} : ∀ v R R', (Lf.rt (P v)).sat F R → R.rt = R'.rt → (Lf.rt (P v)).sat F R' := fun v R R' h e => by unfold Lf.sat at h ⊢; rw [← e]; exact h
theorem hp_rtm {o : β → MO} : ∀ v R R', (Lf.rtm (o v)).sat F R → R.rt = R'.rt → (Lf.rtm (o v)).sat F R' := fun v R R' h e => by unfold Lf.sat at h ⊢; rw [← e]; exact h
end
/-! ### a def keeps its promise -/
theorem slot_app {x : D} {r : Env1} : ∀ {ds : List D} {i : Nat}, nth ds i = some x → slot (ds.map some ++ r) i = some x
  | [], i, h => by cases i <;> cases h
  | _ :: _, 0, h => by cases h; rfl
  | _ :: ds, i + 1, h => slot_app (ds := ds) (i := i) h
theorem nth_startD {N : List Str} {ds : List D} {i : Nat} {x : D} (h : nth ds i = some x) : slot (startD N ds) i = some x := slot_app h
theorem nth_rep {i : Nat} {s : Sl} : ∀ {l : List Sl} {k : Nat}, nth (l ++ List.replicate k .junk) i = some s → s = .junk ∨ nth l i = some s
  | [], k, h => by
    induction k generalizing i with
    | zero => cases i <;> cases h
    | succ k ih => cases i with
      | zero => cases h; exact .inl rfl
      | succ i => rcases ih h with q | q; exact .inl q; cases i <;> cases q
  | _ :: l, k, h => by
    cases i with
    | zero => exact .inr h
    | succ i => exact nth_rep (l := l) (i := i) h
theorem arg_len {A : Type} [Arg A] {a : A} {F : Fr} {ds : List D} (h : ∀ M', FrOk F M' → Arg.P a F.dr M' ds) : (Arg.sh a).length ≤ ds.length := by
  have h1 := Arg.st a F ds h
  have : ∀ (l : List Sl) (ds : List D), (∀ i s, nth l i = some s → ∃ P x, s = .ar P ∧ nth ds i = some x ∧ ∀ M', FrOk F M' → P F.dr M' x) → l.length ≤ ds.length := by
    intro l
    induction l with
    | nil => intro ds _; exact Nat.zero_le _
    | cons s l ih =>
      intro ds h
      cases ds with
      | nil => obtain ⟨_, _, _, h, _⟩ := h 0 s rfl; cases h
      | cons d ds => exact Nat.succ_le_succ (ih ds fun i s e => h (i + 1) s e)
  exact this _ _ h1
theorem start_rel {A : Type} [Arg A] {a : A} {N : List Str} {ds : List D} {M : Mp} {dr : Dw} {sh : List Sl} {k : Nat} (hd : DrOk dr M) (ha : ∀ M', MLe dr [] M M' → Arg.P a dr M' ds) (hl : ds.length ≤ N.length) (hs : sh = Arg.sh a ++ List.replicate k .junk) (hk : sh.length = N.length) :
    Rel ⟨N.length, M, [], dr⟩ sh (startD N ds) M := by
  refine ⟨?_, by rw [hk]; exact Nat.le_refl _, fun i s e => ?_, fun i j l l' o o' p hij h1 h2 _ _ => ?_, .refl, hd, fun p h => by cases h⟩
  · unfold startD; simp; omega
  · rw [hs] at e
    rcases nth_rep e with q | q
    · subst q; trivial
    · obtain ⟨P, x, rfl, h2, h3⟩ := Arg.st a ⟨N.length, M, [], dr⟩ ds ha i s q
      exact ⟨x, nth_startD h2, h3⟩
  · rw [hs] at h1
    rcases nth_rep h1 with q | q
    · cases q
    · obtain ⟨P, x, q, _⟩ := Arg.st a ⟨N.length, M, [], dr⟩ ds ha i _ q; cases q
theorem fn_wp {A β : Type} [Arg A] [Tc β] {t : A → Rs β} {G : Gam} {N : List Str} {body : SL} {k : Nat} (sh : A → List Sl) (hs : ∀ a, sh a = Arg.sh a ++ List.replicate k .junk) (hk : ∀ a, (sh a).length = N.length) (hN : Arg.len A ≤ N.length)
    (h : ∀ (F : Fr) (a : A), F.own = [] → Sv G F [] body (sh a) (t a) fun v => .rt (Pv v)) :
    ∀ ds M R RX, ds.length = Arg.len A → sp t ds M R RX → wpSs G (fun x _ M => RX x M) body ⟨fun _ M => R .non M, R, fun _ _ => False, fun _ _ => False⟩ (startD N ds) M := by
  rintro ds M R RX hl ⟨dr, a, hd, ha, w⟩
  refine h ⟨N.length, M, [], dr⟩ a rfl _ _ _ M (start_rel hd ha (by omega) (hs a) (hk a)) (Rs.wp_mono (fun v q => ?_) (fun x q ρ' M' r' => q M' r'.fr) w)
  exact fun x M' f p => by cases p M' f; exact q M' f
/-- .. a procedure's, which falls off its end -/
theorem fn_wpN {A : Type} [Arg A] {t : A → Rs Unit} {G : Gam} {N : List Str} {body : SL} {k : Nat} (sh : A → List Sl) (hs : ∀ a, sh a = Arg.sh a ++ List.replicate k .junk) (hk : ∀ a, (sh a).length = N.length) (hN : Arg.len A ≤ N.length)
    (h : ∀ (F : Fr) (a : A), F.own = [] → Sv G F [] body (sh a) (t a) fun _ => .nx []) :
    ∀ ds M R RX, ds.length = Arg.len A → sp t ds M R RX → wpSs G (fun x _ M => RX x M) body ⟨fun _ M => R .non M, R, fun _ _ => False, fun _ _ => False⟩ (startD N ds) M := by
  rintro ds M R RX hl ⟨dr, a, hd, ha, w⟩
  refine h ⟨N.length, M, [], dr⟩ a rfl _ _ _ M (start_rel hd ha (by omega) (hs a) (hk a)) (Rs.wp_mono (fun v q => ?_) (fun x q ρ' M' r' => q M' r'.fr) w)
  exact fun ρ' M' r' => q M' r'.fr
theorem fn_wpM {A β : Type} [Arg A] {o : β → MO} {t : A → Rs β} {G : Gam} {N : List Str} {body : SL} {k : Nat} (sh : A → List Sl) (hs : ∀ a, sh a = Arg.sh a ++ List.replicate k .junk) (hk : ∀ a, (sh a).length = N.length) (hN : Arg.len A ≤ N.length)
    (h : ∀ (F : Fr) (a : A), F.own = [] → Sv G F [] body (sh a) (t a) fun v => .rtm (o v)) :
    ∀ ds M R RX, ds.length = Arg.len A → spM o t ds M R RX → wpSs G (fun x _ M => RX x M) body ⟨fun _ M => R .non M, R, fun _ _ => False, fun _ _ => False⟩ (startD N ds) M := by
  rintro ds M R RX hl ⟨dr, a, hd, ha, w⟩
  refine h ⟨N.length, M, [], dr⟩ a rfl _ _ _ M (start_rel hd ha (by omega) (hs a) (hk a)) (Rs.wp_mono (fun v q => ?_) (fun x q ρ' M' r' => q M' r'.fr) w)
  exact fun p M' f hp _ => q p M' f hp
end DS

/-! MR9: more rules -/
namespace DS
open PySem PySem.Spec PyProof.Rows L2
section
variable {G : Gam} {F : Fr} {xs sh : List Sl} {α β γ δ σ : Type} {e e1 e2 e3 : E} {ss : SL} {lf : γ → Lf} {m : Bool} {ti tj : Rs Int}
theorem Sv.ifjP {a b : SL} {c : Bool} {ta tb : Rs σ} {t2 : σ → Rs γ} (post : σ → List Sl) (hc : Ev G F sh e (Pv (α := Bool)) (.ok c)) (ha : Sv G F xs a sh ta fun s => .nx (post s)) (hb : Sv G F xs b sh tb fun s => .nx (post s)) (h2 : ∀ s, Sv G F xs ss (post s) (t2 s) lf) :
    Sv G F xs (.cons (.ifs e a b) ss) sh ((if c then ta else tb).bind t2) lf := by
  intro W R ρ M r k
  rw [wpSs_cons]; unfold wpS wpT
  refine hc W ρ M _ r ?_
  intro x M' r' p
  cases p M' r'
  cases c with
  | true => exact ha W _ ρ M' r' (Rs.wp_mono (fun s q ρ' M2 r2 => h2 s W R ρ' M2 r2 q) (fun _ q => q) (Rs.wp_bind.mp k))
  | false => exact hb W _ ρ M' r' (Rs.wp_mono (fun s q ρ' M2 r2 => h2 s W R ρ' M2 r2 q) (fun _ q => q) (Rs.wp_bind.mp k))
theorem Sv.forP [Tc α] {tg : TG1} {it : IT} {b : SL} {l : List α} {tb : σ → α → Rs σ} {t2 : σ → Rs γ} {s0 : σ} (post : σ → List Sl) (sB : σ → α → List Sl) (hi : It G F sh it (.ok l)) (wx : Wk sh xs) (w0 : Wk sh (post s0))
    (hb : ∀ s x, Bd G F tg (Tc.d x) (post s) (sB s x)) (h1 : ∀ s x, Sv G F xs b (sB s x) (tb s x) fun s => .nc (post s)) (h2 : ∀ s, Sv G F xs ss (post s) (t2 s) lf) :
    Sv G F xs (.cons (.for tg it b) ss) sh ((Rs.fold tb l s0).bind t2) lf := Sv.for post sB hi wx w0 hb h1 h2
theorem Sv.forxP [Tc α] {tg : TG1} {it : IT} {b : SL} {l : List α} {tb : σ → α → Rs (Ct σ β)} {t2 : σ → Rs γ} {s0 : σ} {lr : β → Lf} (post : σ → List Sl) (sB : σ → α → List Sl) (g : β → γ) (hr : ∀ v, lf (g v) = lr v) (hp : ∀ v R R', (lr v).sat F R → R.rt = R'.rt → (lr v).sat F R')
    (hi : It G F sh it (.ok l)) (wx : Wk sh xs) (w0 : Wk sh (post s0))
    (hb : ∀ s x, Bd G F tg (Tc.d x) (post s) (sB s x)) (h1 : ∀ s x, Sv G F xs b (sB s x) (tb s x) (lfL post lr)) (h2 : ∀ s, Sv G F xs ss (post s) (t2 s) lf) :
    Sv G F xs (.cons (.for tg it b) ss) sh ((Rs.loop tb l s0).bind fun c => c.el t2 fun v => .ok (g v)) lf := Sv.forx post sB g hr hp hi wx w0 hb h1 h2
/-! ### comprehensions, once more -/
theorem Ev.lcF [Tc α] [Tc β] {own : List (Str × Nat)} {elt : E} {tg : TG1} {it : IT} {c : EO} {sB : α → List Sl} {tl : Rs (List α)} (p : α → Bool) (f : α → β) (hi : ItC G F sh it tl)
    (hn : ∀ i ∈ tgN tg, i ∈ own.map (·.2)) (hb : ∀ x : α, Bd G F tg (Tc.d x) (wsh sh (own.map (·.2))) (sB x)) (hm : ∀ x, SM (own.map (·.2)) 0 sh (sB x)) (hc : ∀ x, EvC G F (sB x) c (.ok (p x))) (he : ∀ x, Ev G F (sB x) elt (Pv (α := β)) (.ok (f x))) :
    Ev G F sh (.lc false own elt tg it c) (Pv (α := Li β)) (tl.bind fun xs => .ok ⟨(xs.filter p).map f⟩) := by
  have h := Ev.lc hi hn hb hm hc he
  simp only [Rs.comp_ok] at h
  exact h
theorem Ev.lcP [Tc α] [Tc β] {own : List (Str × Nat)} {elt : E} {tg : TG1} {it : IT} {sB : α → List Sl} {tl : Rs (List α)} (f : α → β) (hi : ItC G F sh it tl)
    (hn : ∀ i ∈ tgN tg, i ∈ own.map (·.2)) (hb : ∀ x : α, Bd G F tg (Tc.d x) (wsh sh (own.map (·.2))) (sB x)) (hm : ∀ x, SM (own.map (·.2)) 0 sh (sB x)) (he : ∀ x, Ev G F (sB x) elt (Pv (α := β)) (.ok (f x))) :
    Ev G F sh (.lc false own elt tg it .none) (Pv (α := Li β)) (tl.bind fun xs => .ok ⟨xs.map f⟩) := by
  have h := Ev.lcF (fun _ => true) f hi hn hb hm (fun _ => EvC.none) he
  have e : ∀ l : List α, l.filter (fun _ => true) = l := fun l => List.filter_eq_self.mpr fun _ _ => rfl
  simp only [e] at h
  exact h
theorem Ev.lcM [Tc α] [Tc β] {own : List (Str × Nat)} {elt : E} {tg : TG1} {it : IT} {sB : α → List Sl} {tl : Rs (List α)} (f : α → Rs β) (hi : ItC G F sh it tl)
    (hn : ∀ i ∈ tgN tg, i ∈ own.map (·.2)) (hb : ∀ x : α, Bd G F tg (Tc.d x) (wsh sh (own.map (·.2))) (sB x)) (hm : ∀ x, SM (own.map (·.2)) 0 sh (sB x)) (he : ∀ x, Ev G F (sB x) elt (Pv (α := β)) (f x)) :
    Ev G F sh (.lc false own elt tg it .none) (Pv (α := Li β)) (tl.bind fun xs => (Rs.mapR f xs).bind fun ys => .ok ⟨ys⟩) := by
  have h := Ev.lc hi hn hb hm (fun _ => EvC.none) he
  simp only [Rs.comp_map] at h
  exact h
theorem EvM.lcF [Tc α] [Tc β] {own : List (Str × Nat)} {elt : E} {tg : TG1} {it : IT} {c : EO} {sB : α → List Sl} {tl : Rs (List α)} (p : α → Bool) (f : α → β) (hi : ItC G F sh it tl)
    (hn : ∀ i ∈ tgN tg, i ∈ own.map (·.2)) (hb : ∀ x : α, Bd G F tg (Tc.d x) (wsh sh (own.map (·.2))) (sB x)) (hm : ∀ x, SM (own.map (·.2)) 0 sh (sB x)) (hc : ∀ x, EvC G F (sB x) c (.ok (p x))) (he : ∀ x, Ev G F (sB x) elt (Pv (α := β)) (.ok (f x))) :
    EvM G F sh (.lc true own elt tg it c) (ml (α := β)) (tl.bind fun xs => .ok ((xs.filter p).map f)) := by
  have h := EvM.lc hi hn hb hm hc he
  simp only [Rs.comp_ok] at h
  exact h
theorem EvM.lcP [Tc α] [Tc β] {own : List (Str × Nat)} {elt : E} {tg : TG1} {it : IT} {sB : α → List Sl} {tl : Rs (List α)} (f : α → β) (hi : ItC G F sh it tl)
    (hn : ∀ i ∈ tgN tg, i ∈ own.map (·.2)) (hb : ∀ x : α, Bd G F tg (Tc.d x) (wsh sh (own.map (·.2))) (sB x)) (hm : ∀ x, SM (own.map (·.2)) 0 sh (sB x)) (he : ∀ x, Ev G F (sB x) elt (Pv (α := β)) (.ok (f x))) :
    EvM G F sh (.lc true own elt tg it .none) (ml (α := β)) (tl.bind fun xs => .ok (xs.map f)) := by
  have h := EvM.lcF (fun _ => true) f hi hn hb hm (fun _ => EvC.none) he
  have e : ∀ l : List α, l.filter (fun _ => true) = l := fun l => List.filter_eq_self.mpr fun _ _ => rfl
  simp only [e] at h
  exact h
theorem EvM.lcM [Tc α] [Tc β] {own : List (Str × Nat)} {elt : E} {tg : TG1} {it : IT} {sB : α → List Sl} {tl : Rs (List α)} (f : α → Rs β) (hi : ItC G F sh it tl)
    (hn : ∀ i ∈ tgN tg, i ∈ own.map (·.2)) (hb : ∀ x : α, Bd G F tg (Tc.d x) (wsh sh (own.map (·.2))) (sB x)) (hm : ∀ x, SM (own.map (·.2)) 0 sh (sB x)) (he : ∀ x, Ev G F (sB x) elt (Pv (α := β)) (f x)) :
    EvM G F sh (.lc true own elt tg it .none) (ml (α := β)) (tl.bind fun xs => Rs.mapR f xs) := by
  have h := EvM.lc hi hn hb hm (fun _ => EvC.none) he
  simp only [Rs.comp_map] at h
  exact h
/-! ### + and * of texts, tuples, lists -/
theorem Ev.addS {t1 t2 : Rs String} (h1 : Ev G F sh e1 (Pv (α := String)) t1) (h2 : Ev G F sh e2 (Pv (α := String)) t2) : Ev G F sh (.bin m .Add e1 e2) (Pv (α := String)) (t1.bind fun x => t2.bind fun y => catS x y) :=
  ev_bin catS (fun a b M Q X w => by
    obtain ⟨h, q⟩ := gd_wp w
    refine ⟨by rw [sd_length, sd_length]; exact h, ?_⟩
    rw [← sd_append]; exact q) h1 h2
theorem Ev.catT [Tc α] {t1 t2 : Rs (List α)} (h1 : Ev G F sh e1 (Pv (α := List α)) t1) (h2 : Ev G F sh e2 (Pv (α := List α)) t2) : Ev G F sh (.bin m .Add e1 e2) (Pv (α := List α)) (t1.bind fun x => t2.bind fun y => catR x y) :=
  ev_bin catR (fun a b M Q X w => by
    obtain ⟨h, q⟩ := gd_wp w
    refine ⟨by rw [List.length_map, List.length_map]; exact h, ?_⟩
    rw [← List.map_append]; exact q) h1 h2
def catLi (x y : Li α) : Rs (Li α) := gd (x.l.length + y.l.length ≤ 16777216) ⟨x.l ++ y.l⟩
theorem Ev.catL [Tc α] {t1 t2 : Rs (Li α)} (h1 : Ev G F sh e1 (Pv (α := Li α)) t1) (h2 : Ev G F sh e2 (Pv (α := Li α)) t2) : Ev G F sh (.bin false .Add e1 e2) (Pv (α := Li α)) (t1.bind fun x => t2.bind fun y => catLi x y) :=
  ev_bin catLi (fun a b M Q X w => by
    obtain ⟨h, q⟩ := gd_wp w
    refine ⟨by rw [List.length_map, List.length_map]; exact h, ?_⟩
    rw [← List.map_append]; exact q) h1 h2
def repR (x : List α) (k : Int) : Rs (List α) := gd (x.isEmpty = false ∧ -1000 ≤ k ∧ k ≤ 1000 ∧ x.length ≤ 1000) (List.replicate k.toNat x).flatten
def repLi (x : Li α) (k : Int) : Rs (Li α) := gd ((-(2 ^ 62) ≤ k ∧ k ≤ 16777216) ∧ x.l.length * k.toNat ≤ 16777216) ⟨(List.replicate k.toNat x.l).flatten⟩
theorem rep_map {β : Type} (f : α → β) (l : List α) : ∀ n : Nat, (List.replicate n (l.map f)).flatten = ((List.replicate n l).flatten).map f
  | 0 => rfl
  | n + 1 => by rw [List.replicate_succ, List.replicate_succ, List.flatten_cons, List.flatten_cons, List.map_append, rep_map f l n]
theorem Ev.repT [Tc α] {t1 : Rs (List α)} (h1 : Ev G F sh e1 (Pv (α := List α)) t1) (h2 : Ev G F sh e2 (Pv (α := Int)) tj) : Ev G F sh (.bin m .Mult e1 e2) (Pv (α := List α)) (t1.bind fun x => tj.bind fun y => repR x y) :=
  ev_bin repR (fun a b M Q X w => by
    obtain ⟨⟨h0, h1, h2, h3⟩, q⟩ := gd_wp w
    refine ⟨(fun e => by rw [List.map_eq_nil_iff.mp e] at h0; cases h0), h1, h2, by rw [List.length_map]; exact h3, ?_⟩
    rw [rep_map]; exact q) h1 h2
theorem repL_bin {a : List D} {b : Int} {M : Mp} {Q : QE} (h : ((-(2 ^ 62) ≤ b ∧ b ≤ 16777216) ∧ a.length * b.toNat ≤ sizeLine ∧ newL m (List.replicate b.toNat a).flatten M Q)) : binD m .Mult (.lst a) (.int b) M Q := h
theorem Ev.repL [Tc α] {t1 : Rs (Li α)} (h1 : Ev G F sh e1 (Pv (α := Li α)) t1) (h2 : Ev G F sh e2 (Pv (α := Int)) tj) : Ev G F sh (.bin false .Mult e1 e2) (Pv (α := Li α)) (t1.bind fun x => tj.bind fun y => repLi x y) :=
  ev_bin repLi (fun a b M Q X w => by
    obtain ⟨⟨h0, h1⟩, q⟩ := gd_wp w
    refine repL_bin ⟨h0, by rw [List.length_map]; exact h1, ?_⟩
    rw [rep_map]; exact q) h1 h2
/-- a new list that may be changed, by * -/
theorem EvM.repL [Tc α] {t1 : Rs (Li α)} (h1 : Ev G F sh e1 (Pv (α := Li α)) t1) (h2 : Ev G F sh e2 (Pv (α := Int)) tj) : EvM G F sh (.bin true .Mult e1 e2) (ml (α := α)) (t1.bind fun x => tj.bind fun y => (repLi x y).bind fun l => .ok l.l) := by
  intro W ρ M Q r w
  show wpE G W e1 ρ M fun x M1 => wpE G W e2 ρ M1 fun y M2 => binD true .Mult x y M2 Q
  refine h1 W ρ M _ r (Rs.wp_mono (fun a q x M1 r1 p1 => ?_) (fun _ q => q) (Rs.wp_bind.mp w))
  refine h2 W ρ M1 _ r1 (Rs.wp_mono (fun b q y M2 r2 p2 => ?_) (fun _ q => q) (Rs.wp_bind.mp q))
  cases p1 M2 r2; cases p2 M2 r2
  obtain ⟨⟨h0, h1⟩, q⟩ := gd_wp (Rs.wp_bind.mp q)
  refine repL_bin ⟨h0, by rw [List.length_map]; exact h1, fun p hp => ?_⟩
  have := q p M2 r2 hp
  unfold ml at this
  rw [rep_map]; exact this
theorem EvM.catL [Tc α] {t1 t2 : Rs (Li α)} (h1 : Ev G F sh e1 (Pv (α := Li α)) t1) (h2 : Ev G F sh e2 (Pv (α := Li α)) t2) : EvM G F sh (.bin true .Add e1 e2) (ml (α := α)) (t1.bind fun x => t2.bind fun y => (catLi x y).bind fun l => .ok l.l) := by
  intro W ρ M Q r w
  show wpE G W e1 ρ M fun x M1 => wpE G W e2 ρ M1 fun y M2 => binD true .Add x y M2 Q
  refine h1 W ρ M _ r (Rs.wp_mono (fun a q x M1 r1 p1 => ?_) (fun _ q => q) (Rs.wp_bind.mp w))
  refine h2 W ρ M1 _ r1 (Rs.wp_mono (fun b q y M2 r2 p2 => ?_) (fun _ q => q) (Rs.wp_bind.mp q))
  cases p1 M2 r2; cases p2 M2 r2
  obtain ⟨h0, q⟩ := gd_wp (Rs.wp_bind.mp q)
  refine ⟨by rw [List.length_map, List.length_map]; exact h0, fun p hp => ?_⟩
  have := q p M2 r2 hp
  unfold ml at this
  rw [← List.map_append]; exact this
/-! ### a chain of comparisons -/
theorem Ev.chain {op1 op2 : CmpOp} {tk : Rs Int} (f g : Int → Int → Bool) (hf : ∀ i j M Q, Q (.bl (f i j)) M → cmpD op1 (.int i) (.int j) M Q) (hg : ∀ i j M Q, Q (.bl (g i j)) M → cmpD op2 (.int i) (.int j) M Q)
    (h1 : Ev G F sh e1 (Pv (α := Int)) ti) (h2 : Ev G F sh e2 (Pv (α := Int)) tj) (h3 : Ev G F sh e3 (Pv (α := Int)) tk) : Ev G F sh (.chain op1 op2 e1 e2 e3) (Pv (α := Bool)) (ti.bind fun x => tj.bind fun y => if f x y then tk.bind fun z => .ok (g y z) else .ok false) := by
  intro W ρ M Q r w
  unfold wpE
  refine h1 W ρ M _ r (Rs.wp_mono (fun a q x M1 r1 p1 => ?_) (fun _ q => q) (Rs.wp_bind.mp w))
  refine h2 W ρ M1 _ r1 (Rs.wp_mono (fun b q y M2 r2 p2 => ?_) (fun _ q => q) (Rs.wp_bind.mp q))
  cases p1 M2 r2; cases p2 M2 r2
  refine hf a b M2 _ ?_
  cases e : f a b with
  | true =>
    rw [e] at q
    refine h3 W ρ M2 _ r2 (Rs.wp_mono (fun c q z M3 r3 p3 => ?_) (fun _ q => q) (Rs.wp_bind.mp q))
    cases p3 M3 r3
    exact hg b c M3 Q (q _ M3 r3 fun _ _ => rfl)
  | false =>
    rw [e] at q
    exact q _ M2 r2 fun _ _ => rfl
/-! ### texts -/
def ixS (s : String) (i : Int) : Rs String := if s.length ≤ 16777216 then Rs.of ((L2.atI s.toList i).map fun c => String.singleton c) else .no
theorem sd_single (c : Char) : sd (String.singleton c) = ⟨#[c.toNat]⟩ := by
  rw [sd_eq]; simp
theorem Ev.ixS {t : Rs String} (h1 : Ev G F sh e1 (Pv (α := String)) t) (h2 : Ev G F sh e2 (Pv (α := Int)) ti) : Ev G F sh (.ix e1 e2) (Pv (α := String)) (t.bind fun x => ti.bind fun y => DS.ixS x y) := by
  refine ev_two (f := fun (x : String) (y : Int) => DS.ixS x y) (op := fun x y M Q => ixD x y M Q) (fun _ _ _ _ => rfl) ?_ h1 h2
  rintro s k _ _ dr M Q X rfl rfl w
  unfold DS.ixS at w
  split at w
  · rename_i hz
    obtain ⟨v, e, q⟩ := of_wp w
    cases e2 : L2.atI s.toList k with
    | none => rw [e2] at e; cases e
    | some c =>
      rw [e2] at e; cases e
      refine ⟨by rw [sd_length]; exact hz, ?_⟩
      have : L2.atI (sd s).cps.toList k = some c.toNat := by
        rw [sd_eq]
        show L2.atI (s.toList.map Char.toNat) k = _
        rw [atI_map, e2]; rfl
      rw [this]
      have q := q _ fun _ => rfl
      have q : Q (.str (sd (String.singleton c))) M := q
      rw [sd_single] at q
      exact q
  · exact w.elim
end
end DS

namespace DS
open PySem
abbrev N__law_draws : List Str := ["script"]
def b__law_draws : SL := (.cons (.ret (.lst true (.cons (.bty false .list (.cons (.var 0) .nil)) (.cons (.int 0) (.cons (.int 0) (.cons (.int 1) .nil)))))) .nil)
abbrev nm__law_draws : Nm := {  }
def b__law_draw_1 : SL := (.cons (.asg (.sub (.var 0) (.int 3)) (.bin false .Mod (.bty false .int (.cons (.bin false .Add (.bin false .Add (.bin false .Mult (.ix (.var 0) (.int 3)) (.int 48271)) (.var 2)) (.int 13)) .nil)) (.int 2147483647))) .nil)
def b__law_draw_2 : SL := (.cons (.asg (.sub (.var 0) (.int 3)) (.bin false .Mod (.bty false .int (.cons (.bin false .Add (.bin false .Mult (.ix (.var 0) (.int 3)) (.int 69621)) (.int 7)) .nil)) (.int 2147483629))) (.cons (.ret (.bin false .Mod (.bty false .int (.cons (.bin false .FloorDiv (.ix (.var 0) (.int 3)) (.int 11)) .nil)) (.var 1))) .nil))
def b__law_draw_3 : SL := (.cons (.ifs (.cmp .Gt (.ix (.var 0) (.int 2)) (.int 0)) (.cons (.asg (.v 3) (.bin false .Mod (.bty false .int (.cons (.ix (.var 0) (.int 2)) .nil)) (.var 1))) (.cons (.asg (.sub (.var 0) (.int 2)) (.bin false .FloorDiv (.ix (.var 0) (.int 2)) (.var 1))) (.cons (.ret (.var 3)) .nil))) .nil) b__law_draw_2)
abbrev N__law_draw : List Str := ["draws", "limit", "cell", "value"]
def b__law_draw : SL := (.cons (.ifs (.and (.cmp .Eq (.ix (.var 0) (.int 2)) (.int 0)) (.cmp .Lt (.ix (.var 0) (.int 1)) (.blt false .len (.cons (.ix (.var 0) (.int 0)) .nil)))) (.cons (.asg (.v 2) (.ix (.ix (.var 0) (.int 0)) (.ix (.var 0) (.int 1)))) (.cons (.asg (.sub (.var 0) (.int 1)) (.bin false .Add (.ix (.var 0) (.int 1)) (.int 1))) (.cons (.ifs (.cmp .GtE (.var 2) (.bin false .Pow (.int 10) (.int 18))) (.cons (.asg (.sub (.var 0) (.int 2)) (.var 2)) .nil) .nil) b__law_draw_1))) .nil) b__law_draw_3)
abbrev nm__law_draw : Nm := {  }
def sp__law_draws : SpD := fun ds M R _ => ∃ ns : List Int, ds = [.frl (ns.map D.int)] ∧ ∀ (a : Addr) (st : Dr), M a = none → R (.ref a) (mset M a st.o)
theorem wp__law_draws : ∀ ds M R RX, ds.length = 1 → sp__law_draws ds M R RX → wpSs {} (fun x _ M => RX x M) b__law_draws ⟨fun _ M => R .non M, R, fun _ _ => False, fun _ _ => False⟩ (startD N__law_draws ds) M := by
  rintro ds M R RX - ⟨ns, rfl, hq⟩
  simp only [newL, setD, isRf, wpSs, wpSs', wpS, wpH, wpE, wpL, wpO, wpI, wpC, wpT, bindT, bindL, slot, startD, nth, tgLen, wipeD, cmp_lt, cmp_le, cmp_gt, cmp_ge, cmp_is, cmp_isnot, cmp_ii, cmp_iin, isN_non, isN_int, isN_bl, isN_str, isN_tup, isN_lst, isN_ins, isN_ref, isN_list, isN_enI, isN_opt, bin_catT, bin_catL, bin_repL, bin_repT, cut_none, cut_to, cut_from, cut_mid, cut_last, bin_add, bin_sub, bin_mul, bin_fdiv, bin_mod, bin_pow, bin_shl, bin_shr, bin_and, bin_or, bin_xor, bty_int, bty_intb, Bool.not_true, Bool.not_false, List.map_cons, List.map_nil, List.length_cons, List.length_nil, List.length_map, List.cons_append, List.nil_append, List.replicate, List.set, Nat.reduceAdd, Nat.reduceSub, Nat.zero_add, Nat.add_zero, Nat.sub_self, true_and, and_true, b__law_draws, btyD, sqOf, lsOf, newL]
  intro a ha
  exact hq a ⟨ns, 0, 0, 1, by decide, by decide, by decide⟩ ha
def sp0__law_draw : SpD := fun ds M R _ => ∃ (a : Addr) (st : Dr) (lim : Int), ds = [.ref a, .int lim] ∧ M a = some st.o ∧ 0 < lim ∧ lim < 1073741824 ∧ ∀ v (st' : Dr), 0 ≤ v → v < lim → R (.int v) (mset M a st'.o)
theorem half_ok {M1 : Mp} {a : Addr} {R : QE} {RX : QX} {lim : Int} {c v : Option D} {st : Dr} (ha : M1 a = some st.o) (l0 : 0 < lim) (l1 : lim < 1073741824) (hq : ∀ v (st' : Dr), 0 ≤ v → v < lim → R (.int v) (mset M1 a st'.o)) :
    wpSs {} (fun x _ M => RX x M) b__law_draw_3 ⟨fun _ M => R .non M, R, fun _ _ => False, fun _ _ => False⟩ [some (.ref a), some (.int lim), c, v] M1 := by
  simp only [newL, setD, isRf, wpSs, wpSs', wpS, wpH, wpE, wpL, wpO, wpI, wpC, wpT, bindT, bindL, slot, startD, nth, tgLen, wipeD, cmp_lt, cmp_le, cmp_gt, cmp_ge, cmp_is, cmp_isnot, cmp_ii, cmp_iin, isN_non, isN_int, isN_bl, isN_str, isN_tup, isN_lst, isN_ins, isN_ref, isN_list, isN_enI, isN_opt, bin_catT, bin_catL, bin_repL, bin_repT, cut_none, cut_to, cut_from, cut_mid, cut_last, bin_add, bin_sub, bin_mul, bin_fdiv, bin_mod, bin_pow, bin_shl, bin_shr, bin_and, bin_or, bin_xor, bty_int, bty_intb, Bool.not_true, Bool.not_false, List.map_cons, List.map_nil, List.length_cons, List.length_nil, List.length_map, List.cons_append, List.nil_append, List.replicate, List.set, Nat.reduceAdd, Nat.reduceSub, Nat.zero_add, Nat.add_zero, Nat.sub_self, true_and, and_true, b__law_draw_3, b__law_draw_2]
  refine ix_at (i := 2) (sq_of ha) rfl ?_
  simp only [newL, setD, isRf, wpSs, wpSs', wpS, wpH, wpE, wpL, wpO, wpI, wpC, wpT, bindT, bindL, slot, startD, nth, tgLen, wipeD, cmp_lt, cmp_le, cmp_gt, cmp_ge, cmp_is, cmp_isnot, cmp_ii, cmp_iin, isN_non, isN_int, isN_bl, isN_str, isN_tup, isN_lst, isN_ins, isN_ref, isN_list, isN_enI, isN_opt, bin_catT, bin_catL, bin_repL, bin_repT, cut_none, cut_to, cut_from, cut_mid, cut_last, bin_add, bin_sub, bin_mul, bin_fdiv, bin_mod, bin_pow, bin_shl, bin_shr, bin_and, bin_or, bin_xor, bty_int, bty_intb, Bool.not_true, Bool.not_false, List.map_cons, List.map_nil, List.length_cons, List.length_nil, List.length_map, List.cons_append, List.nil_append, List.replicate, List.set, Nat.reduceAdd, Nat.reduceSub, Nat.zero_add, Nat.add_zero, Nat.sub_self, true_and, and_true]
  by_cases h : 0 < st.big
  · simp only [decide_eq_true h]
    refine ix_at (i := 2) (sq_of ha) rfl ?_
    simp only [newL, setD, isRf, wpSs, wpSs', wpS, wpH, wpE, wpL, wpO, wpI, wpC, wpT, bindT, bindL, slot, startD, nth, tgLen, wipeD, cmp_lt, cmp_le, cmp_gt, cmp_ge, cmp_is, cmp_isnot, cmp_ii, cmp_iin, isN_non, isN_int, isN_bl, isN_str, isN_tup, isN_lst, isN_ins, isN_ref, isN_list, isN_enI, isN_opt, bin_catT, bin_catL, bin_repL, bin_repT, cut_none, cut_to, cut_from, cut_mid, cut_last, bin_add, bin_sub, bin_mul, bin_fdiv, bin_mod, bin_pow, bin_shl, bin_shr, bin_and, bin_or, bin_xor, bty_int, bty_intb, Bool.not_true, Bool.not_false, List.map_cons, List.map_nil, List.length_cons, List.length_nil, List.length_map, List.cons_append, List.nil_append, List.replicate, List.set, Nat.reduceAdd, Nat.reduceSub, Nat.zero_add, Nat.add_zero, Nat.sub_self, true_and, and_true]
    refine ⟨by omega, ix_at (i := 2) (sq_of ha) rfl ?_⟩
    simp only [newL, setD, isRf, wpSs, wpSs', wpS, wpH, wpE, wpL, wpO, wpI, wpC, wpT, bindT, bindL, slot, startD, nth, tgLen, wipeD, cmp_lt, cmp_le, cmp_gt, cmp_ge, cmp_is, cmp_isnot, cmp_ii, cmp_iin, isN_non, isN_int, isN_bl, isN_str, isN_tup, isN_lst, isN_ins, isN_ref, isN_list, isN_enI, isN_opt, bin_catT, bin_catL, bin_repL, bin_repT, cut_none, cut_to, cut_from, cut_mid, cut_last, bin_add, bin_sub, bin_mul, bin_fdiv, bin_mod, bin_pow, bin_shl, bin_shr, bin_and, bin_or, bin_xor, bty_int, bty_intb, Bool.not_true, Bool.not_false, List.map_cons, List.map_nil, List.length_cons, List.length_nil, List.length_map, List.cons_append, List.nil_append, List.replicate, List.set, Nat.reduceAdd, Nat.reduceSub, Nat.zero_add, Nat.add_zero, Nat.sub_self, true_and, and_true, ha]
    refine ⟨⟨by omega, by omega⟩, ?_⟩
    exact hq _ ⟨st.cells, st.p, st.big.fdiv lim, st.seed, Int.fdiv_nonneg (by omega) (by omega), st.hs, st.ht⟩ (fmod_pos l0).1 (fmod_pos l0).2
  · simp only [decide_eq_false h]
    refine ix_at (i := 3) (sq_of ha) rfl ?_
    simp only [newL, setD, isRf, wpSs, wpSs', wpS, wpH, wpE, wpL, wpO, wpI, wpC, wpT, bindT, bindL, slot, startD, nth, tgLen, wipeD, cmp_lt, cmp_le, cmp_gt, cmp_ge, cmp_is, cmp_isnot, cmp_ii, cmp_iin, isN_non, isN_int, isN_bl, isN_str, isN_tup, isN_lst, isN_ins, isN_ref, isN_list, isN_enI, isN_opt, bin_catT, bin_catL, bin_repL, bin_repT, cut_none, cut_to, cut_from, cut_mid, cut_last, bin_add, bin_sub, bin_mul, bin_fdiv, bin_mod, bin_pow, bin_shl, bin_shr, bin_and, bin_or, bin_xor, bty_int, bty_intb, Bool.not_true, Bool.not_false, List.map_cons, List.map_nil, List.length_cons, List.length_nil, List.length_map, List.cons_append, List.nil_append, List.replicate, List.set, Nat.reduceAdd, Nat.reduceSub, Nat.zero_add, Nat.add_zero, Nat.sub_self, true_and, and_true, ha]
    refine ⟨.inr (by decide), by decide, ?_⟩
    refine ix_at (i := 3) sq_ref rfl ?_
    simp only [newL, setD, isRf, wpSs, wpSs', wpS, wpH, wpE, wpL, wpO, wpI, wpC, wpT, bindT, bindL, slot, startD, nth, tgLen, wipeD, cmp_lt, cmp_le, cmp_gt, cmp_ge, cmp_is, cmp_isnot, cmp_ii, cmp_iin, isN_non, isN_int, isN_bl, isN_str, isN_tup, isN_lst, isN_ins, isN_ref, isN_list, isN_enI, isN_opt, bin_catT, bin_catL, bin_repL, bin_repT, cut_none, cut_to, cut_from, cut_mid, cut_last, bin_add, bin_sub, bin_mul, bin_fdiv, bin_mod, bin_pow, bin_shl, bin_shr, bin_and, bin_or, bin_xor, bty_int, bty_intb, Bool.not_true, Bool.not_false, List.map_cons, List.map_nil, List.length_cons, List.length_nil, List.length_map, List.cons_append, List.nil_append, List.replicate, List.set, Nat.reduceAdd, Nat.reduceSub, Nat.zero_add, Nat.add_zero, Nat.sub_self, true_and, and_true]
    refine ⟨⟨by decide, by decide⟩, by omega, ?_⟩
    have hf := fmod_pos (i := st.seed * 69621 + 7) (j := 2147483629) (by decide)
    exact hq _ ⟨st.cells, st.p, st.big, (st.seed * 69621 + 7).fmod 2147483629, st.hb, hf.1, by omega⟩ (fmod_pos l0).1 (fmod_pos l0).2
theorem wp0__law_draw : ∀ ds M R RX, ds.length = 2 → sp0__law_draw ds M R RX → wpSs {} (fun x _ M => RX x M) b__law_draw ⟨fun _ M => R .non M, R, fun _ _ => False, fun _ _ => False⟩ (startD N__law_draw ds) M := by
  rintro ds M R RX - ⟨a, st, lim, rfl, ha, l0, l1, hq⟩
  have k0 : ∀ (c : Option D), wpSs {} (fun x _ M => RX x M) b__law_draw_3 ⟨fun _ M => R .non M, R, fun _ _ => False, fun _ _ => False⟩ [some (.ref a), some (.int lim), c, none] M := fun c => half_ok ha l0 l1 hq
  have k1 : ∀ (c : Option D) (st' : Dr), wpSs {} (fun x _ M => RX x M) b__law_draw_3 ⟨fun _ M => R .non M, R, fun _ _ => False, fun _ _ => False⟩ [some (.ref a), some (.int lim), c, none] (mset M a st'.o) := fun c st' =>
    half_ok mset_same l0 l1 fun v st'' h1 h2 => by rw [mset_mset]; exact hq v st'' h1 h2
  simp only [newL, setD, isRf, wpSs, wpSs', wpS, wpH, wpE, wpL, wpO, wpI, wpC, wpT, bindT, bindL, slot, startD, nth, tgLen, wipeD, cmp_lt, cmp_le, cmp_gt, cmp_ge, cmp_is, cmp_isnot, cmp_ii, cmp_iin, isN_non, isN_int, isN_bl, isN_str, isN_tup, isN_lst, isN_ins, isN_ref, isN_list, isN_enI, isN_opt, bin_catT, bin_catL, bin_repL, bin_repT, cut_none, cut_to, cut_from, cut_mid, cut_last, bin_add, bin_sub, bin_mul, bin_fdiv, bin_mod, bin_pow, bin_shl, bin_shr, bin_and, bin_or, bin_xor, bty_int, bty_intb, Bool.not_true, Bool.not_false, List.map_cons, List.map_nil, List.length_cons, List.length_nil, List.length_map, List.cons_append, List.nil_append, List.replicate, List.set, Nat.reduceAdd, Nat.reduceSub, Nat.zero_add, Nat.add_zero, Nat.sub_self, true_and, and_true, b__law_draw]
  refine ix_at (i := 2) (sq_of ha) rfl ?_
  simp only [newL, setD, isRf, wpSs, wpSs', wpS, wpH, wpE, wpL, wpO, wpI, wpC, wpT, bindT, bindL, slot, startD, nth, tgLen, wipeD, cmp_lt, cmp_le, cmp_gt, cmp_ge, cmp_is, cmp_isnot, cmp_ii, cmp_iin, isN_non, isN_int, isN_bl, isN_str, isN_tup, isN_lst, isN_ins, isN_ref, isN_list, isN_enI, isN_opt, bin_catT, bin_catL, bin_repL, bin_repT, cut_none, cut_to, cut_from, cut_mid, cut_last, bin_add, bin_sub, bin_mul, bin_fdiv, bin_mod, bin_pow, bin_shl, bin_shr, bin_and, bin_or, bin_xor, bty_int, bty_intb, Bool.not_true, Bool.not_false, List.map_cons, List.map_nil, List.length_cons, List.length_nil, List.length_map, List.cons_append, List.nil_append, List.replicate, List.set, Nat.reduceAdd, Nat.reduceSub, Nat.zero_add, Nat.add_zero, Nat.sub_self, true_and, and_true]
  by_cases h : st.big = 0
  · simp only [decide_eq_true h]
    refine ix_at (i := 1) (sq_of ha) rfl ?_
    refine ix_at (i := 0) (sq_of ha) rfl ?_
    simp only [newL, setD, isRf, wpSs, wpSs', wpS, wpH, wpE, wpL, wpO, wpI, wpC, wpT, bindT, bindL, slot, startD, nth, tgLen, wipeD, cmp_lt, cmp_le, cmp_gt, cmp_ge, cmp_is, cmp_isnot, cmp_ii, cmp_iin, isN_non, isN_int, isN_bl, isN_str, isN_tup, isN_lst, isN_ins, isN_ref, isN_list, isN_enI, isN_opt, bin_catT, bin_catL, bin_repL, bin_repT, cut_none, cut_to, cut_from, cut_mid, cut_last, bin_add, bin_sub, bin_mul, bin_fdiv, bin_mod, bin_pow, bin_shl, bin_shr, bin_and, bin_or, bin_xor, bty_int, bty_intb, Bool.not_true, Bool.not_false, List.map_cons, List.map_nil, List.length_cons, List.length_nil, List.length_map, List.cons_append, List.nil_append, List.replicate, List.set, Nat.reduceAdd, Nat.reduceSub, Nat.zero_add, Nat.add_zero, Nat.sub_self, true_and, and_true, bltD, sqOf, lsOf]
    intro _
    by_cases h2 : (st.p : Int) < st.cells.length
    · simp only [decide_eq_true h2]
      refine ix_at (i := 0) (sq_of ha) rfl ?_
      refine ix_at (i := 1) (sq_of ha) rfl ?_
      have h3 : st.p < st.cells.length := by omega
      refine ix_map rfl (List.getElem?_eq_getElem h3) ?_
      generalize st.cells[st.p] = c
      simp only [newL, setD, isRf, wpSs, wpSs', wpS, wpH, wpE, wpL, wpO, wpI, wpC, wpT, bindT, bindL, slot, startD, nth, tgLen, wipeD, cmp_lt, cmp_le, cmp_gt, cmp_ge, cmp_is, cmp_isnot, cmp_ii, cmp_iin, isN_non, isN_int, isN_bl, isN_str, isN_tup, isN_lst, isN_ins, isN_ref, isN_list, isN_enI, isN_opt, bin_catT, bin_catL, bin_repL, bin_repT, cut_none, cut_to, cut_from, cut_mid, cut_last, bin_add, bin_sub, bin_mul, bin_fdiv, bin_mod, bin_pow, bin_shl, bin_shr, bin_and, bin_or, bin_xor, bty_int, bty_intb, Bool.not_true, Bool.not_false, List.map_cons, List.map_nil, List.length_cons, List.length_nil, List.length_map, List.cons_append, List.nil_append, List.replicate, List.set, Nat.reduceAdd, Nat.reduceSub, Nat.zero_add, Nat.add_zero, Nat.sub_self, true_and, and_true]
      refine ix_at (i := 1) (sq_of ha) rfl ?_
      simp only [newL, setD, isRf, wpSs, wpSs', wpS, wpH, wpE, wpL, wpO, wpI, wpC, wpT, bindT, bindL, slot, startD, nth, tgLen, wipeD, cmp_lt, cmp_le, cmp_gt, cmp_ge, cmp_is, cmp_isnot, cmp_ii, cmp_iin, isN_non, isN_int, isN_bl, isN_str, isN_tup, isN_lst, isN_ins, isN_ref, isN_list, isN_enI, isN_opt, bin_catT, bin_catL, bin_repL, bin_repT, cut_none, cut_to, cut_from, cut_mid, cut_last, bin_add, bin_sub, bin_mul, bin_fdiv, bin_mod, bin_pow, bin_shl, bin_shr, bin_and, bin_or, bin_xor, bty_int, bty_intb, Bool.not_true, Bool.not_false, List.map_cons, List.map_nil, List.length_cons, List.length_nil, List.length_map, List.cons_append, List.nil_append, List.replicate, List.set, Nat.reduceAdd, Nat.reduceSub, Nat.zero_add, Nat.add_zero, Nat.sub_self, true_and, and_true, ha, b__law_draw_1]
      rw [show L2.ixN st.l.length 1 = some 1 from rfl]
      refine ⟨⟨by decide, by decide, by decide⟩, ?_⟩
      have hf := fmod_pos (i := st.seed * 48271 + c + 13) (j := 2147483647) (by decide)
      by_cases h4 : (10 : Int) ^ Int.toNat 18 ≤ c
      · simp only [decide_eq_true h4, mset_same]
        rw [show L2.ixN (st.l.set 1 (D.int (st.p + 1))).length 2 = some 2 from rfl]
        simp only [mset_mset]
        refine ix_at (i := 3) sq_ref rfl ?_
        simp only [newL, setD, isRf, wpSs, wpSs', wpS, wpH, wpE, wpL, wpO, wpI, wpC, wpT, bindT, bindL, slot, startD, nth, tgLen, wipeD, cmp_lt, cmp_le, cmp_gt, cmp_ge, cmp_is, cmp_isnot, cmp_ii, cmp_iin, isN_non, isN_int, isN_bl, isN_str, isN_tup, isN_lst, isN_ins, isN_ref, isN_list, isN_enI, isN_opt, bin_catT, bin_catL, bin_repL, bin_repT, cut_none, cut_to, cut_from, cut_mid, cut_last, bin_add, bin_sub, bin_mul, bin_fdiv, bin_mod, bin_pow, bin_shl, bin_shr, bin_and, bin_or, bin_xor, bty_int, bty_intb, Bool.not_true, Bool.not_false, List.map_cons, List.map_nil, List.length_cons, List.length_nil, List.length_map, List.cons_append, List.nil_append, List.replicate, List.set, Nat.reduceAdd, Nat.reduceSub, Nat.zero_add, Nat.add_zero, Nat.sub_self, true_and, and_true, mset_same, mset_mset]
        refine ⟨.inr (by decide), by decide, ?_⟩
        have h5 : (0 : Int) ≤ c := Int.le_trans (by decide) h4
        exact k1 _ ⟨st.cells, st.p + 1, c, _, h5, hf.1, by omega⟩
      · simp only [decide_eq_false h4]
        refine ix_at (i := 3) sq_ref rfl ?_
        simp only [newL, setD, isRf, wpSs, wpSs', wpS, wpH, wpE, wpL, wpO, wpI, wpC, wpT, bindT, bindL, slot, startD, nth, tgLen, wipeD, cmp_lt, cmp_le, cmp_gt, cmp_ge, cmp_is, cmp_isnot, cmp_ii, cmp_iin, isN_non, isN_int, isN_bl, isN_str, isN_tup, isN_lst, isN_ins, isN_ref, isN_list, isN_enI, isN_opt, bin_catT, bin_catL, bin_repL, bin_repT, cut_none, cut_to, cut_from, cut_mid, cut_last, bin_add, bin_sub, bin_mul, bin_fdiv, bin_mod, bin_pow, bin_shl, bin_shr, bin_and, bin_or, bin_xor, bty_int, bty_intb, Bool.not_true, Bool.not_false, List.map_cons, List.map_nil, List.length_cons, List.length_nil, List.length_map, List.cons_append, List.nil_append, List.replicate, List.set, Nat.reduceAdd, Nat.reduceSub, Nat.zero_add, Nat.add_zero, Nat.sub_self, true_and, and_true, mset_same, mset_mset]
        refine ⟨.inr (by decide), by decide, ?_⟩
        exact k1 _ ⟨st.cells, st.p + 1, st.big, _, st.hb, hf.1, by omega⟩
    · simp only [decide_eq_false h2]
      exact k0 _
  · simp only [decide_eq_false h]
    exact k0 _
def b__law_same_1 : SL := (.cons (.ifs (.not (.call 0 (.cons (.ix (.var 0) (.var 2)) (.cons (.ix (.var 1) (.var 2)) .nil)))) (.cons (.ret (.bl false)) .nil) .nil) .nil)
def b__law_same_2 : SL := (.cons (.ret (.bl true)) .nil)
def b__law_same_3 : SL := (.cons (.for (.v 2) (.rng1 (.blt false .len (.cons (.var 1) .nil))) b__law_same_1) b__law_same_2)
def b__law_same_4 : SL := (.cons (.ret (.and (.isi (.var 0) .int) (.cmp .Eq (.var 0) (.var 1)))) .nil)
def b__law_same_5 : SL := (.cons (.ifs (.or (.isi (.var 1) .bool) (.isi (.var 0) .bool)) (.cons (.ret (.and (.isi (.var 1) .bool) (.and (.isi (.var 0) .bool) (.cmp .Eq (.var 0) (.var 1))))) .nil) .nil) b__law_same_4)
def b__law_same_6 : SL := (.cons (.ifs (.cmp .Is (.var 1) .non) (.cons (.ret (.cmp .Is (.var 0) .non)) .nil) .nil) b__law_same_5)
def b__law_same_7 : SL := (.cons (.ifs (.isi (.var 1) .str) (.cons (.ret (.and (.isi (.var 0) .str) (.cmp .Eq (.var 0) (.var 1)))) .nil) .nil) b__law_same_6)
def b__law_same_8 : SL := (.cons (.ifs (.isi (.var 1) .list) (.cons (.ret (.and (.isi (.var 0) .list) (.call 0 (.cons (.bty false .tuple (.cons (.var 0) .nil)) (.cons (.bty false .tuple (.cons (.var 1) .nil)) .nil))))) .nil) .nil) b__law_same_7)
abbrev N__law_same : List Str := ["actual", "expected", "k"]
def b__law_same : SL := (.cons (.ifs (.isi (.var 1) .tuple) (.cons (.ifs (.or (.not (.isi (.var 0) .tuple)) (.cmp .NotEq (.blt false .len (.cons (.var 0) .nil)) (.blt false .len (.cons (.var 1) .nil)))) (.cons (.ret (.bl false)) .nil) .nil) b__law_same_3) .nil) b__law_same_8)
abbrev nm__law_same : Nm := { fn := ["_law_same"] }
mutual
def okD : D → Bool
  | .non => true
  | .bl _ => true
  | .int _ => true
  | .str x => PyData.strOk x
  | .tup ds => okDs ds
  | .lst ds => okDs ds
  | _ => false
def okDs : List D → Bool
  | [] => true
  | d :: ds => okD d && okDs ds
end
mutual
def dpD : D → Nat
  | .tup ds => dpDs ds + 1
  | .lst ds => dpDs ds + 2
  | _ => 0
def dpDs : List D → Nat
  | [] => 0
  | d :: ds => max (dpD d) (dpDs ds)
end
mutual
def sameD : D → D → Bool
  | .non, .non => true
  | .bl a, .bl b => decide (a = b)
  | .int a, .int b => decide (a = b)
  | .str a, .str b => decide (a = b)
  | .tup xs, .tup ys => sameDs xs ys
  | .lst xs, .lst ys => sameDs xs ys
  | _, _ => false
def sameDs : List D → List D → Bool
  | [], [] => true
  | x :: xs, y :: ys => sameD x y && sameDs xs ys
  | _, _ => false
end
theorem okDs_get : ∀ {ds : List D} {i : Nat} {d : D}, okDs ds = true → ds[i]? = some d → okD d = true
  | [], _, _, _, h => by simp at h
  | x :: ds, 0, d, h, e => by rw [okDs, Bool.and_eq_true_iff] at h; simp at e; subst e; exact h.1
  | x :: ds, i + 1, d, h, e => by rw [okDs, Bool.and_eq_true_iff] at h; exact okDs_get h.2 (by simpa using e)
theorem dpDs_get : ∀ {ds : List D} {i : Nat} {d : D}, ds[i]? = some d → dpD d ≤ dpDs ds
  | [], _, _, h => by simp at h
  | x :: ds, 0, d, e => by simp at e; subst e; rw [dpDs]; exact Nat.le_max_left _ _
  | x :: ds, i + 1, d, e => by rw [dpDs]; exact Nat.le_trans (dpDs_get (by simpa using e)) (Nat.le_max_right _ _)
theorem sameDs_len : ∀ {xs ys : List D}, sameDs xs ys = true → xs.length = ys.length
  | [], [], _ => rfl
  | [], _ :: _, h => by simp [sameDs] at h
  | _ :: _, [], h => by simp [sameDs] at h
  | x :: xs, y :: ys, h => by rw [sameDs, Bool.and_eq_true_iff] at h; simp [sameDs_len h.2]
theorem sameDs_no : ∀ {xs ys : List D} {i : Nat} {x y : D}, xs[i]? = some x → ys[i]? = some y → sameD x y = false → sameDs xs ys = false
  | [], _, _, _, _, h, _, _ => by simp at h
  | _ :: _, [], _, _, _, _, h, _ => by simp at h
  | x :: xs, y :: ys, 0, _, _, h1, h2, h3 => by simp at h1 h2; subst h1 h2; rw [sameDs, h3]; rfl
  | x :: xs, y :: ys, i + 1, _, _, h1, h2, h3 => by rw [sameDs, sameDs_no (i := i) (by simpa using h1) (by simpa using h2) h3, Bool.and_false]
theorem sameDs_yes : ∀ {xs ys : List D}, xs.length = ys.length → (∀ (i : Nat) (x y : D), xs[i]? = some x → ys[i]? = some y → sameD x y = true) → sameDs xs ys = true
  | [], [], _, _ => rfl
  | [], _ :: _, h, _ => by simp at h
  | _ :: _, [], h, _ => by simp at h
  | x :: xs, y :: ys, h, k => by rw [sameDs, k 0 x y rfl rfl, sameDs_yes (by simpa using h) fun i a b e1 e2 => k (i + 1) a b (by simpa using e1) (by simpa using e2)]; rfl
mutual
theorem okD_py : ∀ {d : D} {p : PyData}, pyF d = some p → p.canLay0 = true → okD d = true ∧ dpD d ≤ 2 * p.depth
  | .non, _, _, _ => ⟨rfl, Nat.zero_le _⟩
  | .bl _, _, _, _ => ⟨rfl, Nat.zero_le _⟩
  | .int _, _, _, _ => ⟨rfl, Nat.zero_le _⟩
  | .str x, _, h, k => by rw [pyF] at h; cases h; rw [PyData.canLay0] at k; exact ⟨by rw [okD]; exact k, Nat.zero_le _⟩
  | .tup ds, _, h, k => by
    rw [pyF] at h
    cases e : pyFs ds with
    | none => rw [e] at h; cases h
    | some ps =>
      rw [e] at h; cases h
      rw [PyData.canLay0] at k
      obtain ⟨h1, h2⟩ := okDs_py e k
      exact ⟨by rw [okD]; exact h1, by rw [dpD, PyData.depth]; omega⟩
  | .lst ds, _, h, k => by
    rw [pyF] at h
    cases e : pyFs ds with
    | none => rw [e] at h; cases h
    | some ps =>
      rw [e] at h; cases h
      rw [PyData.canLay0] at k
      obtain ⟨h1, h2⟩ := okDs_py e k
      exact ⟨by rw [okD]; exact h1, by rw [dpD, PyData.depth]; omega⟩
  | .dic _, _, h, _ => by simp [pyF] at h
  | .ins _ _, _, h, _ => by simp [pyF] at h
  | .ref _, _, h, _ => by simp [pyF] at h
  | .glo _, _, h, _ => by simp [pyF] at h
theorem okDs_py : ∀ {ds : List D} {ps : List PyData}, pyFs ds = some ps → PyData.canLayAll0 ps = true → okDs ds = true ∧ dpDs ds ≤ 2 * PyData.depthAll ps
  | [], _, h, _ => by rw [pyFs] at h; cases h; exact ⟨rfl, Nat.zero_le _⟩
  | d :: ds, _, h, k => by
    rw [pyFs] at h
    cases e1 : pyF d with
    | none => rw [e1] at h; cases h
    | some p => cases e2 : pyFs ds with
      | none => rw [e1, e2] at h; cases h
      | some ps =>
        rw [e1, e2] at h; cases h
        rw [PyData.canLayAll0, Bool.and_eq_true_iff] at k
        obtain ⟨h1, h2⟩ := okD_py e1 k.1
        obtain ⟨h3, h4⟩ := okDs_py e2 k.2
        refine ⟨by rw [okDs, h1, h3]; rfl, ?_⟩
        rw [dpDs, PyData.depthAll]
        omega
end
theorem okD_en {α : Type} [Tc α] [Py α] (a : α) : okD (Tc.d a) = true := (okD_py (Py.f a) (Py.lay a)).1
theorem dpD_en {α : Type} [Tc α] [Py α] (a : α) {k : Nat} (h : 2 * Py.dep α < k) : dpD (Tc.d a) < k := by
  have := (okD_py (Py.f a) (Py.lay a)).2
  have := Py.dep_le a
  omega
mutual
theorem sameD_refl : ∀ {d : D}, okD d = true → sameD d d = true
  | .non, _ => rfl
  | .bl _, _ => by rw [sameD]; exact decide_eq_true rfl
  | .int _, _ => by rw [sameD]; exact decide_eq_true rfl
  | .str x, _ => by rw [sameD]; exact decide_eq_true rfl
  | .tup ds, h => by rw [okD] at h; rw [sameD]; exact sameDs_refl h
  | .lst ds, h => by rw [okD] at h; rw [sameD]; exact sameDs_refl h
  | .dic _, h => by simp [okD] at h
  | .ins _ _, h => by simp [okD] at h
  | .ref _, h => by simp [okD] at h
  | .glo _, h => by simp [okD] at h
theorem sameDs_refl : ∀ {ds : List D}, okDs ds = true → sameDs ds ds = true
  | [], _ => rfl
  | d :: ds, h => by rw [okDs, Bool.and_eq_true_iff] at h; rw [sameDs, sameD_refl h.1, sameDs_refl h.2]; rfl
end
def sp__law_same (k : Nat) : SpD := fun ds M R _ => ∃ x y : D, ds = [x, y] ∧ okD x = true ∧ okD y = true ∧ dpD y < k ∧ R (.bl (sameD x y)) M
mutual
theorem sameD_eq : ∀ {x y : D}, sameD x y = true → x = y
  | .non, .non, _ => rfl
  | .bl a, .bl b, h => by rw [sameD] at h; rw [of_decide_eq_true h]
  | .int a, .int b, h => by rw [sameD] at h; rw [of_decide_eq_true h]
  | .str a, .str b, h => by rw [sameD] at h; rw [of_decide_eq_true h]
  | .tup xs, .tup ys, h => by rw [sameD] at h; rw [sameDs_eq h]
  | .lst xs, .lst ys, h => by rw [sameD] at h; rw [sameDs_eq h]
theorem sameDs_eq : ∀ {x y : List D}, sameDs x y = true → x = y
  | [], [], _ => rfl
  | x :: xs, y :: ys, h => by rw [sameDs, Bool.and_eq_true_iff] at h; rw [sameD_eq h.1, sameDs_eq h.2]
end
theorem py_inj {α : Type} [Tc α] [Py α] {a b : α} (h : (Tc.d a : D) = Tc.d b) : a = b := (Py.eq a b).mp (by
  have q1 := Py.f a
  rw [h, Py.f b] at q1
  rw [Option.some.inj q1]
  exact (Py.eq a a).mpr rfl)
theorem sameD_py {α : Type} [Tc α] [Py α] [DecidableEq α] (a b : α) : sameD (Tc.d a) (Tc.d b) = decide (a = b) := by
  by_cases h : a = b
  · subst h; rw [sameD_refl (okD_en a)]; exact (decide_eq_true rfl).symm
  · rw [decide_eq_false h]
    cases e : sameD (Tc.d a) (Tc.d b) with
    | false => rfl
    | true => exact absurd (py_inj (sameD_eq e)) h
theorem wp__law_same (k : Nat) : ∀ ds M R RX, ds.length = 2 → sp__law_same (k + 1) ds M R RX → wpSs { fn := [(2, sp__law_same k)] } (fun x _ M => RX x M) b__law_same ⟨fun _ M => R .non M, R, fun _ _ => False, fun _ _ => False⟩ (startD N__law_same ds) M := by
  rintro ds M R RX - ⟨x, y, rfl, ox, oy, hd, hq⟩
  cases y with
  | tup ys =>
    simp only [newL, setD, isRf, wpSs, wpSs', wpS, wpH, wpE, wpL, wpO, wpI, wpC, wpT, bindT, bindL, slot, startD, nth, tgLen, wipeD, cmp_lt, cmp_le, cmp_gt, cmp_ge, cmp_is, cmp_isnot, cmp_ii, cmp_iin, isN_non, isN_int, isN_bl, isN_str, isN_tup, isN_lst, isN_ins, isN_ref, isN_list, isN_enI, isN_opt, bin_catT, bin_catL, bin_repL, bin_repT, cut_none, cut_to, cut_from, cut_mid, cut_last, bin_add, bin_sub, bin_mul, bin_fdiv, bin_mod, bin_pow, bin_shl, bin_shr, bin_and, bin_or, bin_xor, bty_int, bty_intb, Bool.not_true, Bool.not_false, List.map_cons, List.map_nil, List.length_cons, List.length_nil, List.length_map, List.cons_append, List.nil_append, List.replicate, List.set, Nat.reduceAdd, Nat.reduceSub, Nat.zero_add, Nat.add_zero, Nat.sub_self, true_and, and_true, b__law_same, b__law_same_1, b__law_same_2, b__law_same_3, b__law_same_4, b__law_same_5, b__law_same_6, b__law_same_7, b__law_same_8, isiD, reduceCtorEq, decide_true, decide_false, or_self]
    cases x with
    | tup xs =>
      simp only [newL, setD, isRf, wpSs, wpSs', wpS, wpH, wpE, wpL, wpO, wpI, wpC, wpT, bindT, bindL, slot, startD, nth, tgLen, wipeD, cmp_lt, cmp_le, cmp_gt, cmp_ge, cmp_is, cmp_isnot, cmp_ii, cmp_iin, isN_non, isN_int, isN_bl, isN_str, isN_tup, isN_lst, isN_ins, isN_ref, isN_list, isN_enI, isN_opt, bin_catT, bin_catL, bin_repL, bin_repT, cut_none, cut_to, cut_from, cut_mid, cut_last, bin_add, bin_sub, bin_mul, bin_fdiv, bin_mod, bin_pow, bin_shl, bin_shr, bin_and, bin_or, bin_xor, bty_int, bty_intb, Bool.not_true, Bool.not_false, List.map_cons, List.map_nil, List.length_cons, List.length_nil, List.length_map, List.cons_append, List.nil_append, List.replicate, List.set, Nat.reduceAdd, Nat.reduceSub, Nat.zero_add, Nat.add_zero, Nat.sub_self, true_and, and_true, b__law_same, b__law_same_1, b__law_same_2, b__law_same_3, b__law_same_4, b__law_same_5, b__law_same_6, b__law_same_7, b__law_same_8, isiD, bltD, sqOf, lsOf, reduceCtorEq, decide_true, decide_false, or_self]
      intro l1 l2
      by_cases hl : xs.length = ys.length
      · have e : (!decide ((xs.length : Int) = ys.length)) = false := by rw [decide_eq_true (by omega)]; rfl
        rw [e]
        simp only [newL, setD, isRf, wpSs, wpSs', wpS, wpH, wpE, wpL, wpO, wpI, wpC, wpT, bindT, bindL, slot, startD, nth, tgLen, wipeD, cmp_lt, cmp_le, cmp_gt, cmp_ge, cmp_is, cmp_isnot, cmp_ii, cmp_iin, isN_non, isN_int, isN_bl, isN_str, isN_tup, isN_lst, isN_ins, isN_ref, isN_list, isN_enI, isN_opt, bin_catT, bin_catL, bin_repL, bin_repT, cut_none, cut_to, cut_from, cut_mid, cut_last, bin_add, bin_sub, bin_mul, bin_fdiv, bin_mod, bin_pow, bin_shl, bin_shr, bin_and, bin_or, bin_xor, bty_int, bty_intb, Bool.not_true, Bool.not_false, List.map_cons, List.map_nil, List.length_cons, List.length_nil, List.length_map, List.cons_append, List.nil_append, List.replicate, List.set, Nat.reduceAdd, Nat.reduceSub, Nat.zero_add, Nat.add_zero, Nat.sub_self, true_and, and_true]
        intro l3
        have l4 : ys.length ≤ 16777216 := l3
        refine ⟨by omega, ?_⟩
        rw [Int.toNat_natCast, rgD01]
        refine foldS_inv (fun i ρ M' => M' = M ∧ (∃ v, ρ = [some (.tup xs), some (.tup ys), v]) ∧ ∀ j x y, j < i → xs[j]? = some x → ys[j]? = some y → sameD x y = true) ⟨rfl, ⟨_, rfl⟩, fun j _ _ h => absurd h (Nat.not_lt_zero _)⟩ (fun _ _ _ _ => trivial) ?_ ?_
        · rintro i z ρ M' hz ⟨rfl, ⟨v, rfl⟩, hI⟩ K hK
          obtain ⟨j, hj, rfl⟩ := getElem?_map_some hz
          obtain ⟨hj1, hj2⟩ := List.getElem?_eq_some_iff.mp hj
          rw [List.getElem_range] at hj2
          subst hj2
          rw [List.length_range] at hj1
          have ex := List.getElem?_eq_getElem (l := xs) (i := i) (by omega)
          have ey := List.getElem?_eq_getElem (l := ys) (i := i) (by omega)
          generalize xs[i]'(by omega) = a at ex
          generalize ys[i] = b at ey
          simp only [newL, setD, isRf, wpSs, wpSs', wpS, wpH, wpE, wpL, wpO, wpI, wpC, wpT, bindT, bindL, slot, startD, nth, tgLen, wipeD, cmp_lt, cmp_le, cmp_gt, cmp_ge, cmp_is, cmp_isnot, cmp_ii, cmp_iin, isN_non, isN_int, isN_bl, isN_str, isN_tup, isN_lst, isN_ins, isN_ref, isN_list, isN_enI, isN_opt, bin_catT, bin_catL, bin_repL, bin_repT, cut_none, cut_to, cut_from, cut_mid, cut_last, bin_add, bin_sub, bin_mul, bin_fdiv, bin_mod, bin_pow, bin_shl, bin_shr, bin_and, bin_or, bin_xor, bty_int, bty_intb, Bool.not_true, Bool.not_false, List.map_cons, List.map_nil, List.length_cons, List.length_nil, List.length_map, List.cons_append, List.nil_append, List.replicate, List.set, Nat.reduceAdd, Nat.reduceSub, Nat.zero_add, Nat.add_zero, Nat.sub_self, true_and, and_true]
          refine ix_at rfl ex (ix_at rfl ey ⟨_, _, rfl, okDs_get (by rwa [okD] at ox) ex, okDs_get (by rwa [okD] at oy) ey, ?_, ?_⟩)
          · have := dpDs_get ey
            rw [dpD] at hd; omega
          · cases es : sameD a b with
            | true =>
              refine hK _ _ ⟨rfl, ⟨_, rfl⟩, fun j x y hj e1 e2 => ?_⟩
              rcases Nat.lt_succ_iff_lt_or_eq.mp hj with h | h
              · exact hI j x y h e1 e2
              · subst h; rw [ex] at e1; rw [ey] at e2; cases e1; cases e2; exact es
            | false =>
              simp only [newL, setD, isRf, wpSs, wpSs', wpS, wpH, wpE, wpL, wpO, wpI, wpC, wpT, bindT, bindL, slot, startD, nth, tgLen, wipeD, cmp_lt, cmp_le, cmp_gt, cmp_ge, cmp_is, cmp_isnot, cmp_ii, cmp_iin, isN_non, isN_int, isN_bl, isN_str, isN_tup, isN_lst, isN_ins, isN_ref, isN_list, isN_enI, isN_opt, bin_catT, bin_catL, bin_repL, bin_repT, cut_none, cut_to, cut_from, cut_mid, cut_last, bin_add, bin_sub, bin_mul, bin_fdiv, bin_mod, bin_pow, bin_shl, bin_shr, bin_and, bin_or, bin_xor, bty_int, bty_intb, Bool.not_true, Bool.not_false, List.map_cons, List.map_nil, List.length_cons, List.length_nil, List.length_map, List.cons_append, List.nil_append, List.replicate, List.set, Nat.reduceAdd, Nat.reduceSub, Nat.zero_add, Nat.add_zero, Nat.sub_self, true_and, and_true]
              rw [sameD, sameDs_no ex ey es] at hq
              exact hq
        · rintro ρ M' ⟨rfl, ⟨v, rfl⟩, hI⟩
          rw [List.length_map, List.length_range] at hI
          rw [sameD, sameDs_yes hl fun i x y e1 e2 => hI i x y (List.getElem?_eq_some_iff.mp e2).1 e1 e2] at hq
          exact hq
      · have e : (!decide ((xs.length : Int) = ys.length)) = true := by rw [decide_eq_false (by omega)]; rfl
        rw [e]
        simp only [newL, setD, isRf, wpSs, wpSs', wpS, wpH, wpE, wpL, wpO, wpI, wpC, wpT, bindT, bindL, slot, startD, nth, tgLen, wipeD, cmp_lt, cmp_le, cmp_gt, cmp_ge, cmp_is, cmp_isnot, cmp_ii, cmp_iin, isN_non, isN_int, isN_bl, isN_str, isN_tup, isN_lst, isN_ins, isN_ref, isN_list, isN_enI, isN_opt, bin_catT, bin_catL, bin_repL, bin_repT, cut_none, cut_to, cut_from, cut_mid, cut_last, bin_add, bin_sub, bin_mul, bin_fdiv, bin_mod, bin_pow, bin_shl, bin_shr, bin_and, bin_or, bin_xor, bty_int, bty_intb, Bool.not_true, Bool.not_false, List.map_cons, List.map_nil, List.length_cons, List.length_nil, List.length_map, List.cons_append, List.nil_append, List.replicate, List.set, Nat.reduceAdd, Nat.reduceSub, Nat.zero_add, Nat.add_zero, Nat.sub_self, true_and, and_true]
        rw [sameD, show sameDs xs ys = false from by
          cases h : sameDs xs ys with
          | false => rfl
          | true => exact absurd (sameDs_len h) hl] at hq
        exact hq
    | _ => first | (simp [okD] at ox; done) | (simp only [newL, setD, isRf, wpSs, wpSs', wpS, wpH, wpE, wpL, wpO, wpI, wpC, wpT, bindT, bindL, slot, startD, nth, tgLen, wipeD, cmp_lt, cmp_le, cmp_gt, cmp_ge, cmp_is, cmp_isnot, cmp_ii, cmp_iin, isN_non, isN_int, isN_bl, isN_str, isN_tup, isN_lst, isN_ins, isN_ref, isN_list, isN_enI, isN_opt, bin_catT, bin_catL, bin_repL, bin_repT, cut_none, cut_to, cut_from, cut_mid, cut_last, bin_add, bin_sub, bin_mul, bin_fdiv, bin_mod, bin_pow, bin_shl, bin_shr, bin_and, bin_or, bin_xor, bty_int, bty_intb, Bool.not_true, Bool.not_false, List.map_cons, List.map_nil, List.length_cons, List.length_nil, List.length_map, List.cons_append, List.nil_append, List.replicate, List.set, Nat.reduceAdd, Nat.reduceSub, Nat.zero_add, Nat.add_zero, Nat.sub_self, true_and, and_true, isiD, reduceCtorEq, decide_true, decide_false, or_self]; exact hq)
  | lst ys =>
    cases x with
    | lst xs =>
      simp only [newL, setD, isRf, wpSs, wpSs', wpS, wpH, wpE, wpL, wpO, wpI, wpC, wpT, bindT, bindL, slot, startD, nth, tgLen, wipeD, cmp_lt, cmp_le, cmp_gt, cmp_ge, cmp_is, cmp_isnot, cmp_ii, cmp_iin, isN_non, isN_int, isN_bl, isN_str, isN_tup, isN_lst, isN_ins, isN_ref, isN_list, isN_enI, isN_opt, bin_catT, bin_catL, bin_repL, bin_repT, cut_none, cut_to, cut_from, cut_mid, cut_last, bin_add, bin_sub, bin_mul, bin_fdiv, bin_mod, bin_pow, bin_shl, bin_shr, bin_and, bin_or, bin_xor, bty_int, bty_intb, Bool.not_true, Bool.not_false, List.map_cons, List.map_nil, List.length_cons, List.length_nil, List.length_map, List.cons_append, List.nil_append, List.replicate, List.set, Nat.reduceAdd, Nat.reduceSub, Nat.zero_add, Nat.add_zero, Nat.sub_self, true_and, and_true, b__law_same, b__law_same_1, b__law_same_2, b__law_same_3, b__law_same_4, b__law_same_5, b__law_same_6, b__law_same_7, b__law_same_8, isiD, bltD, btyD, sqOf, lsOf, reduceCtorEq, decide_true, decide_false, or_self]
      rw [okD] at ox oy
      rw [dpD] at hd
      rw [sameD] at hq
      exact ⟨_, _, rfl, by rw [okD]; exact ox, by rw [okD]; exact oy, by rw [dpD]; omega, by rw [sameD]; exact hq⟩
    | _ => first | (simp [okD] at ox; done) | (simp only [newL, setD, isRf, wpSs, wpSs', wpS, wpH, wpE, wpL, wpO, wpI, wpC, wpT, bindT, bindL, slot, startD, nth, tgLen, wipeD, cmp_lt, cmp_le, cmp_gt, cmp_ge, cmp_is, cmp_isnot, cmp_ii, cmp_iin, isN_non, isN_int, isN_bl, isN_str, isN_tup, isN_lst, isN_ins, isN_ref, isN_list, isN_enI, isN_opt, bin_catT, bin_catL, bin_repL, bin_repT, cut_none, cut_to, cut_from, cut_mid, cut_last, bin_add, bin_sub, bin_mul, bin_fdiv, bin_mod, bin_pow, bin_shl, bin_shr, bin_and, bin_or, bin_xor, bty_int, bty_intb, Bool.not_true, Bool.not_false, List.map_cons, List.map_nil, List.length_cons, List.length_nil, List.length_map, List.cons_append, List.nil_append, List.replicate, List.set, Nat.reduceAdd, Nat.reduceSub, Nat.zero_add, Nat.add_zero, Nat.sub_self, true_and, and_true, b__law_same, b__law_same_1, b__law_same_2, b__law_same_3, b__law_same_4, b__law_same_5, b__law_same_6, b__law_same_7, b__law_same_8, isiD, reduceCtorEq, decide_true, decide_false, or_self]; exact hq)
  | str y =>
    cases x with
    | str x =>
      simp only [newL, setD, isRf, wpSs, wpSs', wpS, wpH, wpE, wpL, wpO, wpI, wpC, wpT, bindT, bindL, slot, startD, nth, tgLen, wipeD, cmp_lt, cmp_le, cmp_gt, cmp_ge, cmp_is, cmp_isnot, cmp_ii, cmp_iin, isN_non, isN_int, isN_bl, isN_str, isN_tup, isN_lst, isN_ins, isN_ref, isN_list, isN_enI, isN_opt, bin_catT, bin_catL, bin_repL, bin_repT, cut_none, cut_to, cut_from, cut_mid, cut_last, bin_add, bin_sub, bin_mul, bin_fdiv, bin_mod, bin_pow, bin_shl, bin_shr, bin_and, bin_or, bin_xor, bty_int, bty_intb, Bool.not_true, Bool.not_false, List.map_cons, List.map_nil, List.length_cons, List.length_nil, List.length_map, List.cons_append, List.nil_append, List.replicate, List.set, Nat.reduceAdd, Nat.reduceSub, Nat.zero_add, Nat.add_zero, Nat.sub_self, true_and, and_true, b__law_same, b__law_same_1, b__law_same_2, b__law_same_3, b__law_same_4, b__law_same_5, b__law_same_6, b__law_same_7, b__law_same_8, isiD, bltD, btyD, sqOf, lsOf, reduceCtorEq, decide_true, decide_false, or_self]
      rw [okD] at ox oy
      rw [sameD] at hq
      refine cmp_eq (α := St) (a := ⟨x, ox⟩) (b := ⟨y, oy⟩) ?_
      simp only [Subtype.mk.injEq]
      exact hq
    | _ => first | (simp [okD] at ox; done) | (simp only [newL, setD, isRf, wpSs, wpSs', wpS, wpH, wpE, wpL, wpO, wpI, wpC, wpT, bindT, bindL, slot, startD, nth, tgLen, wipeD, cmp_lt, cmp_le, cmp_gt, cmp_ge, cmp_is, cmp_isnot, cmp_ii, cmp_iin, isN_non, isN_int, isN_bl, isN_str, isN_tup, isN_lst, isN_ins, isN_ref, isN_list, isN_enI, isN_opt, bin_catT, bin_catL, bin_repL, bin_repT, cut_none, cut_to, cut_from, cut_mid, cut_last, bin_add, bin_sub, bin_mul, bin_fdiv, bin_mod, bin_pow, bin_shl, bin_shr, bin_and, bin_or, bin_xor, bty_int, bty_intb, Bool.not_true, Bool.not_false, List.map_cons, List.map_nil, List.length_cons, List.length_nil, List.length_map, List.cons_append, List.nil_append, List.replicate, List.set, Nat.reduceAdd, Nat.reduceSub, Nat.zero_add, Nat.add_zero, Nat.sub_self, true_and, and_true, b__law_same, b__law_same_1, b__law_same_2, b__law_same_3, b__law_same_4, b__law_same_5, b__law_same_6, b__law_same_7, b__law_same_8, isiD, reduceCtorEq, decide_true, decide_false, or_self]; exact hq)
  | non =>
    cases x with
    | _ => first | (simp [okD] at ox; done) | (simp only [newL, setD, isRf, wpSs, wpSs', wpS, wpH, wpE, wpL, wpO, wpI, wpC, wpT, bindT, bindL, slot, startD, nth, tgLen, wipeD, cmp_lt, cmp_le, cmp_gt, cmp_ge, cmp_is, cmp_isnot, cmp_ii, cmp_iin, isN_non, isN_int, isN_bl, isN_str, isN_tup, isN_lst, isN_ins, isN_ref, isN_list, isN_enI, isN_opt, bin_catT, bin_catL, bin_repL, bin_repT, cut_none, cut_to, cut_from, cut_mid, cut_last, bin_add, bin_sub, bin_mul, bin_fdiv, bin_mod, bin_pow, bin_shl, bin_shr, bin_and, bin_or, bin_xor, bty_int, bty_intb, Bool.not_true, Bool.not_false, List.map_cons, List.map_nil, List.length_cons, List.length_nil, List.length_map, List.cons_append, List.nil_append, List.replicate, List.set, Nat.reduceAdd, Nat.reduceSub, Nat.zero_add, Nat.add_zero, Nat.sub_self, true_and, and_true, b__law_same, b__law_same_1, b__law_same_2, b__law_same_3, b__law_same_4, b__law_same_5, b__law_same_6, b__law_same_7, b__law_same_8, isiD, reduceCtorEq, decide_true, decide_false, or_self]; exact hq)
  | bl y =>
    cases x with
    | bl x =>
      simp only [newL, setD, isRf, wpSs, wpSs', wpS, wpH, wpE, wpL, wpO, wpI, wpC, wpT, bindT, bindL, slot, startD, nth, tgLen, wipeD, cmp_lt, cmp_le, cmp_gt, cmp_ge, cmp_is, cmp_isnot, cmp_ii, cmp_iin, isN_non, isN_int, isN_bl, isN_str, isN_tup, isN_lst, isN_ins, isN_ref, isN_list, isN_enI, isN_opt, bin_catT, bin_catL, bin_repL, bin_repT, cut_none, cut_to, cut_from, cut_mid, cut_last, bin_add, bin_sub, bin_mul, bin_fdiv, bin_mod, bin_pow, bin_shl, bin_shr, bin_and, bin_or, bin_xor, bty_int, bty_intb, Bool.not_true, Bool.not_false, List.map_cons, List.map_nil, List.length_cons, List.length_nil, List.length_map, List.cons_append, List.nil_append, List.replicate, List.set, Nat.reduceAdd, Nat.reduceSub, Nat.zero_add, Nat.add_zero, Nat.sub_self, true_and, and_true, b__law_same, b__law_same_1, b__law_same_2, b__law_same_3, b__law_same_4, b__law_same_5, b__law_same_6, b__law_same_7, b__law_same_8, isiD, bltD, btyD, sqOf, lsOf, reduceCtorEq, decide_true, decide_false, or_self, or_true]
      rw [sameD] at hq
      exact cmp_eq (α := Bool) hq
    | _ => first | (simp [okD] at ox; done) | (simp only [newL, setD, isRf, wpSs, wpSs', wpS, wpH, wpE, wpL, wpO, wpI, wpC, wpT, bindT, bindL, slot, startD, nth, tgLen, wipeD, cmp_lt, cmp_le, cmp_gt, cmp_ge, cmp_is, cmp_isnot, cmp_ii, cmp_iin, isN_non, isN_int, isN_bl, isN_str, isN_tup, isN_lst, isN_ins, isN_ref, isN_list, isN_enI, isN_opt, bin_catT, bin_catL, bin_repL, bin_repT, cut_none, cut_to, cut_from, cut_mid, cut_last, bin_add, bin_sub, bin_mul, bin_fdiv, bin_mod, bin_pow, bin_shl, bin_shr, bin_and, bin_or, bin_xor, bty_int, bty_intb, Bool.not_true, Bool.not_false, List.map_cons, List.map_nil, List.length_cons, List.length_nil, List.length_map, List.cons_append, List.nil_append, List.replicate, List.set, Nat.reduceAdd, Nat.reduceSub, Nat.zero_add, Nat.add_zero, Nat.sub_self, true_and, and_true, b__law_same, b__law_same_1, b__law_same_2, b__law_same_3, b__law_same_4, b__law_same_5, b__law_same_6, b__law_same_7, b__law_same_8, isiD, reduceCtorEq, decide_true, decide_false, or_self, or_true]; exact hq)
  | int y =>
    cases x with
    | int x =>
      simp only [newL, setD, isRf, wpSs, wpSs', wpS, wpH, wpE, wpL, wpO, wpI, wpC, wpT, bindT, bindL, slot, startD, nth, tgLen, wipeD, cmp_lt, cmp_le, cmp_gt, cmp_ge, cmp_is, cmp_isnot, cmp_ii, cmp_iin, isN_non, isN_int, isN_bl, isN_str, isN_tup, isN_lst, isN_ins, isN_ref, isN_list, isN_enI, isN_opt, bin_catT, bin_catL, bin_repL, bin_repT, cut_none, cut_to, cut_from, cut_mid, cut_last, bin_add, bin_sub, bin_mul, bin_fdiv, bin_mod, bin_pow, bin_shl, bin_shr, bin_and, bin_or, bin_xor, bty_int, bty_intb, Bool.not_true, Bool.not_false, List.map_cons, List.map_nil, List.length_cons, List.length_nil, List.length_map, List.cons_append, List.nil_append, List.replicate, List.set, Nat.reduceAdd, Nat.reduceSub, Nat.zero_add, Nat.add_zero, Nat.sub_self, true_and, and_true, b__law_same, b__law_same_1, b__law_same_2, b__law_same_3, b__law_same_4, b__law_same_5, b__law_same_6, b__law_same_7, b__law_same_8, isiD, bltD, btyD, sqOf, lsOf, reduceCtorEq, decide_true, decide_false, or_self]
      rw [sameD] at hq
      exact hq
    | _ => first | (simp [okD] at ox; done) | (simp only [newL, setD, isRf, wpSs, wpSs', wpS, wpH, wpE, wpL, wpO, wpI, wpC, wpT, bindT, bindL, slot, startD, nth, tgLen, wipeD, cmp_lt, cmp_le, cmp_gt, cmp_ge, cmp_is, cmp_isnot, cmp_ii, cmp_iin, isN_non, isN_int, isN_bl, isN_str, isN_tup, isN_lst, isN_ins, isN_ref, isN_list, isN_enI, isN_opt, bin_catT, bin_catL, bin_repL, bin_repT, cut_none, cut_to, cut_from, cut_mid, cut_last, bin_add, bin_sub, bin_mul, bin_fdiv, bin_mod, bin_pow, bin_shl, bin_shr, bin_and, bin_or, bin_xor, bty_int, bty_intb, Bool.not_true, Bool.not_false, List.map_cons, List.map_nil, List.length_cons, List.length_nil, List.length_map, List.cons_append, List.nil_append, List.replicate, List.set, Nat.reduceAdd, Nat.reduceSub, Nat.zero_add, Nat.add_zero, Nat.sub_self, true_and, and_true, b__law_same, b__law_same_1, b__law_same_2, b__law_same_3, b__law_same_4, b__law_same_5, b__law_same_6, b__law_same_7, b__law_same_8, isiD, reduceCtorEq, decide_true, decide_false, or_self, or_true]; exact hq)
  | _ => simp [okD] at oy

theorem Ev.same {α : Type} [Tc α] [Py α] [DecidableEq α] {G : Gam} {F : Fr} {sh : List Sl} {e1 e2 : E} {k : Nat} {t1 t2 : Rs α} (hG : nth G.fn k = some (2, sp__law_same 10)) (hd : 2 * Py.dep α < 10) (h1 : Ev G F sh e1 (Pv (α := α)) t1) (h2 : Ev G F sh e2 (Pv (α := α)) t2) :
    Ev G F sh (.call k (.cons e1 (.cons e2 .nil))) (Pv (α := Bool)) (t1.bind fun x => t2.bind fun y => .ok (decide (x = y))) := by
  intro W ρ M Q r w
  have hw : wpE G W (.call k (.cons e1 (.cons e2 .nil))) ρ M Q = (wpE G W e1 ρ M fun x M1 => wpE G W e2 ρ M1 fun y M2 => [x, y].length = 2 ∧ sp__law_same 10 [x, y] M2 Q fun x M' => W x ρ M') := by
    show (match nth G.fn k with
      | some (n, sp) => wpL G W (.cons e1 (.cons e2 .nil)) ρ M fun ds M1 => ds.length = n ∧ sp ds M1 Q fun x M' => W x ρ M'
      | none => False) = _
    rw [hG]; rfl
  rw [hw]
  refine h1 W ρ M _ r (Rs.wp_mono (fun a q x M1 r1 p1 => ?_) (fun _ q => q) (Rs.wp_bind.mp w))
  refine h2 W ρ M1 _ r1 (Rs.wp_mono (fun b q y M2 r2 p2 => ?_) (fun _ q => q) (Rs.wp_bind.mp q))
  cases p1 M2 r2; cases p2 M2 r2
  refine ⟨rfl, _, _, rfl, okD_en a, okD_en b, dpD_en b hd, ?_⟩
  rw [sameD_py]
  exact q _ M2 r2 fun _ _ => rfl
/-! ### draws -/
def m__law_draw (_ : Drw) (lim : Int) : Rs Int := .dr lim .ok
abbrev sp__law_draw : SpD := sp (A := Drw × Int × Unit) fun a => m__law_draw a.1 a.2.1
theorem wp__law_draw : ∀ ds M R RX, ds.length = 2 → sp__law_draw ds M R RX → wpSs {} (fun x _ M => RX x M) b__law_draw ⟨fun _ M => R .non M, R, fun _ _ => False, fun _ _ => False⟩ (startD N__law_draw ds) M := by
  rintro ds M R RX hl ⟨dr, a, hd, ha, w⟩
  have h := ha M .refl
  match ds, h with
  | [x, y], ⟨⟨p, e1, e2⟩, e3, _⟩ =>
    subst e1; subst e2
    have e3 : y = .int a.2.1 := e3
    subst e3
    obtain ⟨st, hst⟩ := hd
    obtain ⟨w1, w2, w3⟩ := w
    refine wp0__law_draw _ M R RX hl ⟨p, st, a.2.1, rfl, hst, w1, w2, fun v st' v0 v1 => w3 v v0 v1 _ ⟨fun b o q n _ => ?_, fun _ => ⟨st', mset_same⟩, fun b h => by cases h⟩⟩
    rw [mset_ne fun e => n e]; exact q
/-! ### the law -/
theorem law_wp0 {n : Nat} {t : Fl Int → Rs Bool} {G : Gam} {N : List Str} {body : SL} {k : Nat} (sh : Fl Int × Unit → List Sl) (hs : ∀ a, sh a = Arg.sh a ++ List.replicate k .junk) (hk : ∀ a, (sh a).length = N.length) (hN : 1 ≤ N.length)
    (h : ∀ (F : Fr) (a : Fl Int × Unit), F.own = [] → Sv G F [] body (sh a) (t a.1) fun v => .rt (Pv v)) (hm : ∀ ns : List Int, ns.length ≤ n → (t ⟨ns⟩).wp (fun b => b = true) fun _ => False) :
    ∀ ds M R RX, ds.length = 1 → spLaw n ds M R RX → wpSs G (fun x _ M => RX x M) body ⟨fun _ M => R .non M, R, fun _ _ => False, fun _ _ => False⟩ (startD N ds) M := by
  rintro ds M R RX hl ⟨ns, rfl, hn, rfl, hq⟩
  refine fn_wp (A := Fl Int × Unit) (t := fun a => t a.1) sh hs hk hN h _ _ R RX rfl ⟨none, (⟨ns⟩, ()), trivial, fun _ _ => ⟨rfl, rfl⟩, Rs.wp_mono (fun b e M' _ => ?_) (fun x e => e.elim) (hm ns hn)⟩
  rw [e]; exact hq M'
theorem law_wpD {n : Nat} {t : Fl Int → Rs Bool} {G : Gam} {N : List Str} {rest : SL} {j k m : Nat} (hG : nth G.fn k = some (1, sp__law_draws)) (sh : Fl Int → List Sl) (hs : ∀ a, sh a = ((Sl.ar (Pv a)) :: List.replicate m .junk).set j (.ar (Ar.P Drw.mk))) (hj : j < m + 1) (hj0 : j ≠ 0) (hN : N.length = m + 1)
    (h : ∀ (F : Fr) (a : Fl Int), F.own = [] → Sv G F [] rest (sh a) (t a) fun v => .rt (Pv v)) (hm : ∀ ns : List Int, ns.length ≤ n → (t ⟨ns⟩).wp (fun b => b = true) fun _ => False) :
    ∀ ds M R RX, ds.length = 1 → spLaw n ds M R RX → wpSs G (fun x _ M => RX x M) (.cons (.asg (.v j) (.call k (.cons (.var 0) .nil))) rest) ⟨fun _ M => R .non M, R, fun _ _ => False, fun _ _ => False⟩ (startD N ds) M := by
  rintro ds M R RX hl ⟨ns, rfl, hn, rfl, hq⟩
  rw [show wpSs G (fun x _ M => RX x M) (.cons (.asg (.v j) (.call k (.cons (.var 0) .nil))) rest) ⟨fun _ M => R .non M, R, fun _ _ => False, fun _ _ => False⟩ (startD N [.frl (ns.map D.int)]) (fun _ => none) = _ from wpSs_cons]
  unfold wpS
  have hw : ∀ K, wpE G (fun x _ M => RX x M) (.call k (.cons (.var 0) .nil)) (startD N [.frl (ns.map D.int)]) (fun _ => none) K = ([D.frl (ns.map D.int)].length = 1 ∧ sp__law_draws [.frl (ns.map D.int)] (fun _ => none) K fun x M' => RX x M') := by
    intro K
    show (match nth G.fn k with
      | some (n, sp) => wpL G (fun x _ M => RX x M) (.cons (.var 0) .nil) (startD N [.frl (ns.map D.int)]) (fun _ => none) fun ds M1 => ds.length = n ∧ sp ds M1 K fun x M' => RX x M'
      | none => False) = _
    rw [hG]; rfl
  rw [hw]
  refine ⟨rfl, ns, rfl, fun a st _ => ?_⟩
  unfold bindT
  have hlen : (startD N [.frl (ns.map D.int)]).length = N.length := by unfold startD; simp; omega
  refine h ⟨N.length, mset (fun _ => none) a st.o, [], some (a, none)⟩ ⟨ns⟩ rfl _ _ _ _ ⟨by rw [List.length_set, hlen], by rw [hs, List.length_set]; simp; omega, fun i s e => ?_, fun i i' l l' o o' p _ e => ?_, .refl, ⟨st, by show mset (fun _ => none) a st.o a = _; exact mset_same⟩, fun p h => by cases h⟩ (Rs.wp_mono (fun b e => ?_) (fun x e => e.elim) (hm ns hn))
  · rw [hs] at e
    by_cases hi : j = i
    · subst hi
      rw [nth_set_same e, slot_set_same (by rw [hlen]; omega)]
      exact ⟨_, rfl, fun _ _ => ⟨a, rfl, rfl⟩⟩
    · rw [nth_set_ne hi] at e
      rw [slot_set_ne hi]
      cases i with
      | zero => cases e; exact ⟨_, rfl, fun _ _ => rfl⟩
      | succ i =>
        have : ∀ (m i : Nat), nth (List.replicate m Sl.junk) i = some s → s = .junk := by
          intro m
          induction m with
          | zero => intro i e; cases i <;> cases e
          | succ m ih => intro i e; cases i with
            | zero => cases e; rfl
            | succ i => exact ih i e
        rw [this m i e]; trivial
  · rw [hs] at e
    by_cases hi : j = i
    · subst hi; cases nth_set_same e
    · rw [nth_set_ne hi] at e
      cases i with
      | zero => cases e
      | succ i =>
        have : ∀ (m i : Nat) (s : Sl), nth (List.replicate m Sl.junk) i = some s → s = .junk := by
          intro m
          induction m with
          | zero => intro i s e; cases i <;> cases e
          | succ m ih => intro i s e; cases i with
            | zero => cases e; rfl
            | succ i => exact ih i s e
        cases this m i _ e
  · subst e
    exact fun x M' _ px => by cases px M' (by assumption); exact hq M'
end DS

/-! MR11: dicts, reversed lists, two walks -/
namespace DS
open PySem PySem.Spec PyProof.Rows L2
namespace Rs
variable {α β : Type}
theorem only_ok : ∀ (t : Rs α), t.only.only = t.only
  | .ok a => rfl
  | .ex x => rfl
  | .no => rfl
  | .dr l k => congrArg (Rs.dr l) (funext fun v => only_ok (k v))
theorem only_bind {f : α → Rs β} (h : ∀ a, (f a).only = f a) : ∀ (t : Rs α), (t.only.bind f).only = t.only.bind f
  | .ok a => h a
  | .ex x => rfl
  | .no => rfl
  | .dr l k => congrArg (Rs.dr l) (funext fun v => only_bind h (k v))
theorem only_bind' {f : α → Rs β} (h : ∀ a, (f a).only = f a) {t : Rs α} (ht : t.only = t) : (t.bind f).only = t.bind f := by rw [← ht]; exact only_bind h t
theorem comp_only (c : α → Rs Bool) (f : α → Rs β) : ∀ xs : List α, (comp c f xs).only = comp c f xs
  | [] => rfl
  | x :: xs => by
    unfold comp
    refine only_bind (fun b => ?_) _
    cases b with
    | true => exact only_bind (fun y => only_bind' (fun _ => rfl) (comp_only c f xs)) _
    | false => exact comp_only c f xs
theorem wp_some {Q : α → Prop} {X : XD → Prop} : ∀ {t : Rs α}, t.wp Q X → (∃ a, Q a) ∨ ∃ x, X x
  | .ok a, h => .inl ⟨a, h⟩
  | .ex x, h => .inr ⟨x, h⟩
  | .no, h => h.elim
  | .dr l k, h => wp_some (h.2.2 0 (Int.le_refl 0) h.1)
/-- lists, one behind the other -/
def cat2 (f : α → Rs (List β)) : List α → Rs (List β)
  | [] => .ok []
  | x :: xs => (f x).only.bind fun ys => (cat2 f xs).bind fun zs => .ok (ys ++ zs)
theorem cat2_only (f : α → Rs (List β)) : ∀ xs : List α, (cat2 f xs).only = cat2 f xs
  | [] => rfl
  | x :: xs => by unfold cat2; exact only_bind (fun y => only_bind' (fun _ => rfl) (cat2_only f xs)) _
theorem cat2_ok (f : α → List β) : ∀ xs : List α, cat2 (fun x => .ok (f x)) xs = .ok (xs.flatMap f)
  | [] => rfl
  | x :: xs => by unfold cat2; rw [cat2_ok f xs]; rfl
theorem cat2_eq {f : α → Rs (List β)} {g : α → List β} : ∀ {xs : List α}, (∀ x ∈ xs, f x = .ok (g x)) → cat2 f xs = .ok (xs.flatMap g)
  | [], _ => rfl
  | x :: xs, h => by unfold cat2; rw [h x (List.mem_cons_self ..), cat2_eq fun y hy => h y (List.mem_cons_of_mem _ hy)]; rfl
end Rs
def lenR {α : Type} (l : List α) : Rs (List α) := gd (l.length ≤ 16777216) l
section
variable {G : Gam} {F : Fr} {sh : List Sl} {α β γ δ : Type} {e e1 e2 e3 : E} {m : Bool} {ti tj : Rs Int}
variable {κ : Type} [DecidableEq κ] [Tc κ] [Kc κ]
/-! ### d.get -/
theorem getD_map [Tc α] (k : κ) (l : List (κ × α)) (v : α) : (valD (l.map kvD) (Kc.k k)).getD (Tc.d v) = Tc.d ((dget l k).getD v) := by
  rw [valD_map]; cases dget l k <;> rfl
theorem getN_map [Tc α] (k : κ) (l : List (κ × α)) : (valD (l.map kvD) (Kc.k k)).getD .non = Tc.d (dget l k) := by
  rw [valD_map]; cases dget l k <;> rfl
theorem Ev.dget2 [Tc α] {td : Rs (List (κ × α))} {tk : Rs κ} {tv : Rs α} (h1 : Ev G F sh e1 (Pk (κ := κ) (α := α)) td) (h2 : Ev G F sh e2 (Pv (α := κ)) tk) (h3 : Ev G F sh e3 (Pv (α := α)) tv) :
    Ev G F sh (.dget2 e1 e2 e3) (Pv (α := α)) (td.bind fun l => tk.bind fun k => tv.bind fun v => .ok ((dget l k).getD v)) := by
  intro W ρ M Q r w
  unfold wpE
  refine h1 W ρ M _ r (Rs.wp_mono (fun l q x M1 r1 p1 => ?_) (fun _ q => q) (Rs.wp_bind.mp w))
  refine ⟨by rw [show dcOf M1 x = some (l.map kvD) from p1 M1 r1]; rfl, ?_⟩
  refine h2 W ρ M1 _ r1 (Rs.wp_mono (fun k q y M2 r2 p2 => ?_) (fun _ q => q) (Rs.wp_bind.mp q))
  refine h3 W ρ M2 _ r2 (Rs.wp_mono (fun v q z M3 r3 p3 => ?_) (fun _ q => q) (Rs.wp_bind.mp q))
  rw [show dcOf M3 x = some (l.map kvD) from p1 M3 r3, show y = Tc.d k from p2 M3 r3, Kc.kd, show z = Tc.d v from p3 M3 r3]
  simp only [getD_map]
  exact q _ M3 r3 fun _ _ => rfl
theorem Ev.dget1 [Tc α] {td : Rs (List (κ × α))} {tk : Rs κ} (h1 : Ev G F sh e1 (Pk (κ := κ) (α := α)) td) (h2 : Ev G F sh e2 (Pv (α := κ)) tk) :
    Ev G F sh (.dget1 e1 e2) (Pv (α := Option α)) (td.bind fun l => tk.bind fun k => .ok (dget l k)) := by
  intro W ρ M Q r w
  unfold wpE
  refine h1 W ρ M _ r (Rs.wp_mono (fun l q x M1 r1 p1 => ?_) (fun _ q => q) (Rs.wp_bind.mp w))
  refine ⟨by rw [show dcOf M1 x = some (l.map kvD) from p1 M1 r1]; rfl, ?_⟩
  refine h2 W ρ M1 _ r1 (Rs.wp_mono (fun k q y M2 r2 p2 => ?_) (fun _ q => q) (Rs.wp_bind.mp q))
  rw [show dcOf M2 x = some (l.map kvD) from p1 M2 r2, show y = Tc.d k from p2 M2 r2, Kc.kd]
  simp only [getN_map]
  exact q _ M2 r2 fun _ _ => rfl
/-! ### a[::-1] -/
theorem Ev.rev [Tc α] {t : Rs (List α)} (h : Ev G F sh e (Pl (α := α)) t) : Ev G F sh (.rev false e) (Pv (α := Li α)) (t.bind fun l => .ok ⟨l.reverse⟩) := by
  refine ev_one (f := fun l : List α => (.ok ⟨l.reverse⟩ : Rs (Li α))) (op := fun x M1 Q => match lsOf M1 x with | some ds => newL false ds.reverse M1 Q | none => False) (fun _ _ _ _ => rfl) ?_ h
  intro l x dr M Q X p w
  show (match lsOf M x with | some ds => newL false ds.reverse M Q | none => False)
  rw [show lsOf M x = some (l.map Tc.d) from p]
  exact w _ fun _ => by show D.lst _ = D.lst _; rw [List.map_reverse]
theorem EvM.rev [Tc α] {t : Rs (List α)} (h : Ev G F sh e (Pl (α := α)) t) : EvM G F sh (.rev true e) (ml (α := α)) (t.bind fun l => .ok l.reverse) := by
  intro W ρ M Q r w
  unfold wpE
  refine h W ρ M _ r (Rs.wp_mono (fun l q x M' r' p => ?_) (fun _ q => q) (Rs.wp_bind.mp w))
  rw [show lsOf M' x = some (l.map Tc.d) from p M' r']
  intro a ha
  have := q a M' r' ha
  unfold ml at this
  rwa [List.map_reverse] at this
/-! ### new dicts -/
def dmkA {α : Type} (acc : List (κ × α)) (l : List (κ × α)) : List (κ × α) := l.foldl (fun a p => dput a p.1 p.2) acc
def dmk {α : Type} (l : List (κ × α)) : List (κ × α) := dmkA [] l
def inter [Tc α] (l : List (κ × α)) : List D := l.flatMap fun p => [Tc.d p.1, Tc.d p.2]
theorem merge_inter [Tc α] : ∀ (l acc : List (κ × α)), mergeD (evens (inter l)) (odds (inter l)) (acc.map kvD) = some ((dmkA acc l).map kvD)
  | [], acc => rfl
  | (k, v) :: l, acc => by
    show mergeD (Tc.d k :: evens (inter l)) (Tc.d v :: odds (inter l)) (acc.map kvD) = _
    show (match keyD (Tc.d k) with | some k => mergeD (evens (inter l)) (odds (inter l)) (putKD (acc.map kvD) k (Tc.d v)) | none => none) = _
    rw [Kc.kd]
    simp only [put_map]
    exact merge_inter l (dput acc k v)
def EvP (G : Gam) (F : Fr) (sh : List Sl) [Tc α] (es : EL) (t : Rs (List (κ × α))) : Prop :=
  ∀ (ρ : Env1) (M : Mp) (Q : List D → Mp → Prop), Rel F sh ρ M → t.wp (fun l => ∀ M', Rel F sh ρ M' → Q (inter l) M') (fun _ => False) → wpL G (fun _ _ _ => False) es ρ M Q
theorem EvP.nil [Tc α] : EvP G F sh (κ := κ) (α := α) .nil (.ok []) := fun ρ M Q r w => by unfold wpL; exact w M r
theorem EvP.cons [Tc α] {es : EL} {tk : Rs κ} {tv : Rs α} {ts : Rs (List (κ × α))} (h1 : Ev G F sh e1 (Pv (α := κ)) tk) (h2 : Ev G F sh e2 (Pv (α := α)) tv) (hs : EvP G F sh es ts) : EvP G F sh (.cons e1 (.cons e2 es)) (tk.bind fun k => tv.bind fun v => ts.bind fun l => .ok ((k, v) :: l)) := by
  intro ρ M Q r w
  unfold wpL
  refine h1 _ ρ M _ r (Rs.wp_mono (fun k q x M1 r1 p1 => ?_) (fun _ q => q.elim) (Rs.wp_bind.mp w))
  unfold wpL
  refine h2 _ ρ M1 _ r1 (Rs.wp_mono (fun v q y M2 r2 p2 => ?_) (fun _ q => q.elim) (Rs.wp_bind.mp q))
  refine hs ρ M2 _ r2 (Rs.wp_mono (fun l q M3 r3 => ?_) (fun _ q => q.elim) (Rs.wp_bind.mp q))
  cases p1 M3 r3; cases p2 M3 r3
  exact q M3 r3
theorem Ev.dct0 [Tc α] : Ev G F sh (.dct0 false) (Pv (α := Di κ α)) (.ok ⟨[]⟩) := fun W ρ M Q r w => by unfold wpE; exact w _ M r fun _ _ => rfl
theorem EvM.dct0 [Tc α] : EvM G F sh (.dct0 true) (md (κ := κ) (α := α)) (.ok []) := fun W ρ M Q r w => by unfold wpE; exact fun p hp => w p M r hp
theorem Ev.dct [Tc α] {es : EL} {ts : Rs (List (κ × α))} (hs : EvP G F sh es ts) : Ev G F sh (.dct false es) (Pv (α := Di κ α)) (ts.only.bind fun l => .ok ⟨dmk l⟩) := by
  intro W ρ M Q r w
  unfold wpE
  refine hs ρ M _ r (Rs.only_wp (X := fun x => ∀ M', Rel F sh ρ M' → W x ρ M') (Rs.wp_mono (fun l q M' r' => ?_) (fun _ q => q) (Rs.wp_bind.mp w)))
  have := merge_inter (α := α) l []
  rw [List.map_nil] at this
  rw [this]
  exact q _ M' r' fun _ _ => rfl
theorem EvM.dct [Tc α] {es : EL} {ts : Rs (List (κ × α))} (hs : EvP G F sh es ts) : EvM G F sh (.dct true es) (md (κ := κ) (α := α)) (ts.only.bind fun l => .ok (dmk l)) := by
  intro W ρ M Q r w
  unfold wpE
  refine hs ρ M _ r (Rs.only_wp (X := fun x => ∀ M', Rel F sh ρ M' → W x ρ M') (Rs.wp_mono (fun l q M' r' => ?_) (fun _ q => q) (Rs.wp_bind.mp w)))
  have := merge_inter (α := α) l []
  rw [List.map_nil] at this
  rw [this]
  exact fun p hp => q p M' r' hp
/-! ### dicts walked -/
def kvT (p : κ × α) : T2 κ α := ⟨p.1, p.2⟩
class Kd (κ : Type) [DecidableEq κ] [Tc κ] [Kc κ] : Prop where
  d : ∀ k : κ, kDD (Kc.k k) = Tc.d k
instance : Kd Int := ⟨fun _ => rfl⟩
instance : Kd String := ⟨fun _ => rfl⟩
theorem It.items [Kd κ] [Tc α] {t : Rs (Di κ α)} (h : Ev G F sh e (Pv (α := Di κ α)) t) : It G F sh (.items e) (t.bind fun d => .ok (d.l.map kvT)) := by
  intro W ρ M Q r w
  unfold wpI
  refine h W ρ M _ r (Rs.wp_mono (fun l q x M' r' p => ?_) (fun _ q => q) (Rs.wp_bind.mp w))
  cases p M' r'
  have q := q (fun _ => True) M' r' fun _ => trivial
  rw [List.map_map] at q
  show (l.l.map kvD).length ≤ sizeLine → Q ((l.l.map kvD).map fun p => .tup [kDD p.1, p.2]) (fun _ => True) M'
  rw [List.map_map]
  refine fun _ => cast (congrArg (fun z => Q z (fun _ => True) M') (List.map_congr_left fun p _ => ?_)) q
  show D.tup [Tc.d p.1, Tc.d p.2] = D.tup [kDD (Kc.k p.1), Tc.d p.2]
  rw [Kd.d]
theorem It.keys [Kd κ] [Tc α] {t : Rs (Di κ α)} (h : Ev G F sh e (Pv (α := Di κ α)) t) : It G F sh (.keys e) (t.bind fun d => .ok (d.l.map (·.1))) := by
  intro W ρ M Q r w
  unfold wpI
  refine h W ρ M _ r (Rs.wp_mono (fun l q x M' r' p => ?_) (fun _ q => q) (Rs.wp_bind.mp w))
  cases p M' r'
  have q := q (fun _ => True) M' r' fun _ => trivial
  rw [List.map_map] at q
  show (l.l.map kvD).length ≤ sizeLine → Q ((l.l.map kvD).map fun p => kDD p.1) (fun _ => True) M'
  rw [List.map_map]
  refine fun _ => cast (congrArg (fun z => Q z (fun _ => True) M') (List.map_congr_left fun p _ => ?_)) q
  show Tc.d p.1 = kDD (Kc.k p.1)
  rw [Kd.d]
/-! ### a comprehension's dict -/
theorem dc_core' [Tc α] [Tc β] {own : List (Str × Nat)} {kx vx : E} {tg : TG1} {c : EO} {sB : α → List Sl} {tc : α → Rs Bool} {tk : α → Rs κ} {tv : α → Rs β}
    (hn : ∀ i ∈ tgN tg, i ∈ own.map (·.2)) (hb : ∀ x : α, Bd G F tg (Tc.d x) (wsh sh (own.map (·.2))) (sB x)) (hm : ∀ x, SM (own.map (·.2)) 0 sh (sB x)) (hc : ∀ x, EvC G F (sB x) c (tc x)) (hk : ∀ x, Ev G F (sB x) kx (Pv (α := κ)) (tk x)) (he : ∀ x, Ev G F (sB x) vx (Pv (α := β)) (tv x))
    {ρ : Env1} {g : Mp → Prop} {Q : List (Key × D) → Mp → Prop} {X : XD → Prop} (hg : ∀ M'', Rel F sh ρ M'' → g M'') :
    ∀ (xs : List α) (acc : List (κ × β)) (M : Mp), Rel F sh ρ M → (Rs.comp tc (fun x => (tk x).bind fun k => (tv x).bind fun v => .ok (k, v)) xs).wp (fun ys => ∀ M', Rel F sh ρ M' → Q ((dmkA acc ys).map kvD) M') X →
      foldK (bindT G (fun _ _ _ => False) tg) (wpC G (fun _ _ _ => False) c) (wpE G (fun _ _ _ => False) kx) (wpE G (fun _ _ _ => False) vx) (wipeD ρ (own.map (·.2))) g (xs.map Tc.d) (acc.map kvD) M Q
  | [], acc, M, r, w => ⟨hg M r, w M r⟩
  | x :: xs, acc, M, r, w => by
    refine ⟨hg M r, hb x _ _ M _ (r.wipe _) fun ρ1 r1 k1 => ?_⟩
    have hs : ∀ i, i ∉ own.map (·.2) → slot ρ1 i = slot ρ i := fun i hi => (k1 i fun z => hi (hn i z)).trans (slot_wipe hi)
    unfold Rs.comp at w
    refine hc x _ ρ1 M _ r1 (Rs.only_wp (X := X) (Rs.wp_mono (fun b q M2 r2 => ?_) (fun _ q => q) (Rs.wp_bind.mp w)))
    cases b with
    | true =>
      have q := Rs.only_wp (Y := fun _ => False) (Rs.wp_bind.mp q)
      refine hk x _ ρ1 M2 _ r2 (Rs.wp_mono (fun y q z M3 r3 p3 => ?_) (fun _ q => q.elim) (Rs.wp_bind.mp q))
      refine he x _ ρ1 M3 _ r3 (Rs.wp_mono (fun v q z2 M4 r4 p4 => ?_) (fun _ q => q.elim) (Rs.wp_bind.mp q))
      cases p3 M4 r4; cases p4 M4 r4
      show (match keyD (Tc.d y) with | some k => foldK _ _ _ _ _ g (xs.map Tc.d) (putKD (acc.map kvD) k (Tc.d v)) M4 Q | none => False)
      rw [Kc.kd]
      simp only [put_map]
      exact dc_core' hn hb hm hc hk he hg xs (dput acc y v) M4 (r.back r4 (hm x) hs) (Rs.wp_mono (fun ys q M' r' => q M' r') (fun _ q => q) (Rs.wp_bind.mp q))
    | false => exact dc_core' hn hb hm hc hk he hg xs acc M2 (r.back r2 (hm x) hs) q
theorem Ev.dc [Tc α] [Tc β] {own : List (Str × Nat)} {kx vx : E} {tg : TG1} {it : IT} {c : EO} {sB : α → List Sl} {tc : α → Rs Bool} {tk : α → Rs κ} {tv : α → Rs β} {tl : Rs (List α)} (hi : ItC G F sh it tl)
    (hn : ∀ i ∈ tgN tg, i ∈ own.map (·.2)) (hb : ∀ x : α, Bd G F tg (Tc.d x) (wsh sh (own.map (·.2))) (sB x)) (hm : ∀ x, SM (own.map (·.2)) 0 sh (sB x)) (hc : ∀ x, EvC G F (sB x) c (tc x)) (hk : ∀ x, Ev G F (sB x) kx (Pv (α := κ)) (tk x)) (he : ∀ x, Ev G F (sB x) vx (Pv (α := β)) (tv x)) :
    Ev G F sh (.dc false own kx vx tg it c) (Pv (α := Di κ β)) (tl.bind fun xs => (Rs.comp tc (fun x => (tk x).bind fun k => (tv x).bind fun v => .ok (k, v)) xs).bind fun ys => .ok ⟨dmk ys⟩) := by
  intro W ρ M Q r w
  unfold wpE
  refine hi W ρ M _ r (Rs.wp_mono (fun xs q g M1 r1 hg => ?_) (fun _ q => q) (Rs.wp_bind.mp w))
  refine dc_core' hn hb hm hc hk he hg xs [] M1 r1 (Rs.wp_mono (fun ys q M' r' => ?_) (fun _ q => q) (Rs.wp_bind.mp q))
  exact q _ M' r' fun _ _ => rfl
theorem EvM.dc [Tc α] [Tc β] {own : List (Str × Nat)} {kx vx : E} {tg : TG1} {it : IT} {c : EO} {sB : α → List Sl} {tc : α → Rs Bool} {tk : α → Rs κ} {tv : α → Rs β} {tl : Rs (List α)} (hi : ItC G F sh it tl)
    (hn : ∀ i ∈ tgN tg, i ∈ own.map (·.2)) (hb : ∀ x : α, Bd G F tg (Tc.d x) (wsh sh (own.map (·.2))) (sB x)) (hm : ∀ x, SM (own.map (·.2)) 0 sh (sB x)) (hc : ∀ x, EvC G F (sB x) c (tc x)) (hk : ∀ x, Ev G F (sB x) kx (Pv (α := κ)) (tk x)) (he : ∀ x, Ev G F (sB x) vx (Pv (α := β)) (tv x)) :
    EvM G F sh (.dc true own kx vx tg it c) (md (κ := κ) (α := β)) (tl.bind fun xs => (Rs.comp tc (fun x => (tk x).bind fun k => (tv x).bind fun v => .ok (k, v)) xs).bind fun ys => .ok (dmk ys)) := by
  intro W ρ M Q r w
  unfold wpE
  refine hi W ρ M _ r (Rs.wp_mono (fun xs q g M1 r1 hg => ?_) (fun _ q => q) (Rs.wp_bind.mp w))
  refine dc_core' hn hb hm hc hk he hg xs [] M1 r1 (Rs.wp_mono (fun ys q M' r' => ?_) (fun _ q => q) (Rs.wp_bind.mp q))
  exact fun p hp => q p M' r' hp
/-- .. of values that stand at once -/
theorem Ev.dcF [Tc α] [Tc β] {own : List (Str × Nat)} {kx vx : E} {tg : TG1} {it : IT} {c : EO} {sB : α → List Sl} {tl : Rs (List α)} (p : α → Bool) (k : α → κ) (v : α → β) (hi : ItC G F sh it tl)
    (hn : ∀ i ∈ tgN tg, i ∈ own.map (·.2)) (hb : ∀ x : α, Bd G F tg (Tc.d x) (wsh sh (own.map (·.2))) (sB x)) (hm : ∀ x, SM (own.map (·.2)) 0 sh (sB x)) (hc : ∀ x, EvC G F (sB x) c (.ok (p x))) (hk : ∀ x, Ev G F (sB x) kx (Pv (α := κ)) (.ok (k x))) (he : ∀ x, Ev G F (sB x) vx (Pv (α := β)) (.ok (v x))) :
    Ev G F sh (.dc false own kx vx tg it c) (Pv (α := Di κ β)) (tl.bind fun xs => .ok ⟨dmk ((xs.filter p).map fun x => (k x, v x))⟩) := by
  have h := Ev.dc hi hn hb hm hc hk he
  have e : ∀ xs : List α, Rs.comp (fun x => .ok (p x)) (fun x => (Rs.ok (k x)).bind fun k => (Rs.ok (v x)).bind fun v => .ok (k, v)) xs = .ok ((xs.filter p).map fun x => (k x, v x)) := fun xs => Rs.comp_ok p (fun x => (k x, v x)) xs
  simp only [e] at h
  exact h
theorem EvM.dcF [Tc α] [Tc β] {own : List (Str × Nat)} {kx vx : E} {tg : TG1} {it : IT} {c : EO} {sB : α → List Sl} {tl : Rs (List α)} (p : α → Bool) (k : α → κ) (v : α → β) (hi : ItC G F sh it tl)
    (hn : ∀ i ∈ tgN tg, i ∈ own.map (·.2)) (hb : ∀ x : α, Bd G F tg (Tc.d x) (wsh sh (own.map (·.2))) (sB x)) (hm : ∀ x, SM (own.map (·.2)) 0 sh (sB x)) (hc : ∀ x, EvC G F (sB x) c (.ok (p x))) (hk : ∀ x, Ev G F (sB x) kx (Pv (α := κ)) (.ok (k x))) (he : ∀ x, Ev G F (sB x) vx (Pv (α := β)) (.ok (v x))) :
    EvM G F sh (.dc true own kx vx tg it c) (md (κ := κ) (α := β)) (tl.bind fun xs => .ok (dmk ((xs.filter p).map fun x => (k x, v x)))) := by
  have h := EvM.dc hi hn hb hm hc hk he
  have e : ∀ xs : List α, Rs.comp (fun x => .ok (p x)) (fun x => (Rs.ok (k x)).bind fun k => (Rs.ok (v x)).bind fun v => .ok (k, v)) xs = .ok ((xs.filter p).map fun x => (k x, v x)) := fun xs => Rs.comp_ok p (fun x => (k x, v x)) xs
  simp only [e] at h
  exact h
/-! ### two walks -/
theorem lcz_core [Tc α] [Tc β] {own : List Nat} {elt : E} {tg : TG1} {c : EO} {sB : α → List Sl} {tc : α → Rs Bool} {te : α → Rs β}
    (hn : ∀ i ∈ tgN tg, i ∈ own) (hb : ∀ x : α, Bd G F tg (Tc.d x) (wsh sh own) (sB x)) (hm : ∀ x, SM own 0 sh (sB x)) (hc : ∀ x, EvC G F (sB x) c (tc x)) (he : ∀ x, Ev G F (sB x) elt (Pv (α := β)) (te x))
    {ρ : Env1} {g : Mp → Prop} {Q : List D → Mp → Prop} {X : XD → Prop} (hg : ∀ M'', Rel F sh ρ M'' → g M'') :
    ∀ (xs : List α) (acc : List D) (M : Mp), Rel F sh ρ M → (Rs.comp tc te xs).wp (fun ys => acc.length + ys.length ≤ 16777216 ∧ ∀ M', Rel F sh ρ M' → Q (acc ++ ys.map Tc.d) M') X →
      foldCz (bindT G (fun _ _ _ => False) tg) (wpC G (fun _ _ _ => False) c) (wpE G (fun _ _ _ => False) elt) (wipeD ρ own) g (xs.map Tc.d) acc M Q
  | [], acc, M, r, w => ⟨hg M r, by have := w.2 M r; rwa [List.map_nil, List.append_nil] at this⟩
  | x :: xs, acc, M, r, w => by
    refine ⟨hg M r, hb x _ _ M _ (r.wipe _) fun ρ1 r1 k1 => ?_⟩
    have hs : ∀ i, i ∉ own → slot ρ1 i = slot ρ i := fun i hi => (k1 i fun z => hi (hn i z)).trans (slot_wipe hi)
    unfold Rs.comp at w
    refine hc x _ ρ1 M _ r1 (Rs.only_wp (X := X) (Rs.wp_mono (fun b q M2 r2 => ?_) (fun _ q => q) (Rs.wp_bind.mp w)))
    cases b with
    | true =>
      refine he x _ ρ1 M2 _ r2 (Rs.only_wp (X := X) (Rs.wp_mono (fun y q z M3 r3 p3 => ?_) (fun _ q => q) (Rs.wp_bind.mp q)))
      cases p3 M3 r3
      have q := Rs.wp_bind.mp q
      have q : (Rs.comp tc te xs).wp (fun ys => acc.length + (ys.length + 1) ≤ 16777216 ∧ ∀ M', Rel F sh ρ M' → Q (acc ++ Tc.d y :: ys.map Tc.d) M') X := q
      refine ⟨?_, lcz_core hn hb hm hc he hg xs _ M3 (r.back r3 (hm x) hs) (Rs.wp_mono (fun ys q => ⟨?_, fun M' r' => ?_⟩) (fun _ q => q) q)⟩
      · have h := q
        rw [← Rs.comp_only] at h
        rcases Rs.wp_some (Rs.only_wp (Y := fun _ => False) h) with ⟨ys, h1, _⟩ | ⟨x, h⟩
        · show acc.length < 16777216; omega
        · exact h.elim
      · rw [List.length_append, List.length_singleton]; have := q.1; omega
      · have := q.2 M' r'
        rwa [← List.singleton_append, ← List.append_assoc] at this
    | false => exact lcz_core hn hb hm hc he hg xs acc M2 (r.back r2 (hm x) hs) q
variable {δ : Type}
theorem lc2_core' [Tc α] [Tc β] [Tc δ] {own : List (Str × Nat)} {vs1 : List Nat} {elt : E} {tg tg1 : TG1} {it1 : IT} {c c1 : EO} {sA : α → List Sl} {sB : α → δ → List Sl} {tc : α → Rs Bool} {ti1 : α → Rs (List δ)} {tc1 : α → δ → Rs Bool} {te : α → δ → Rs β}
    (hn : ∀ i ∈ tgN tg, i ∈ own.map (·.2)) (hv : ∀ i ∈ vs1, i ∈ own.map (·.2)) (hn1 : ∀ i ∈ tgN tg1, i ∈ vs1)
    (hb : ∀ x : α, Bd G F tg (Tc.d x) (wsh sh (own.map (·.2))) (sA x)) (hm : ∀ x, SM (own.map (·.2)) 0 sh (sA x)) (hc : ∀ x, EvC G F (sA x) c (tc x)) (hi1 : ∀ x, ItC G F (sA x) it1 (ti1 x))
    (hb1 : ∀ x (y : δ), Bd G F tg1 (Tc.d y) (wsh (sA x) vs1) (sB x y)) (hm1 : ∀ x y, SM vs1 0 (sA x) (sB x y)) (hc1 : ∀ x y, EvC G F (sB x y) c1 (tc1 x y)) (he : ∀ x y, Ev G F (sB x y) elt (Pv (α := β)) (te x y))
    {ρ : Env1} {g : Mp → Prop} {Q : List D → Mp → Prop} {X : XD → Prop} (hg : ∀ M'', Rel F sh ρ M'' → g M'') :
    ∀ (xs : List α) (acc : List D) (M : Mp), Rel F sh ρ M → (Rs.cat2 (fun x => (tc x).only.bind fun b => if b then (ti1 x).only.bind fun ys => Rs.comp (tc1 x) (te x) ys else .ok []) xs).wp (fun ys => acc.length + ys.length ≤ 16777216 ∧ ∀ M', Rel F sh ρ M' → Q (acc ++ ys.map Tc.d) M') X →
      foldC2 (bindT G (fun _ _ _ => False) tg) (wpC G (fun _ _ _ => False) c) (fun ρ2 M2 acc Q2 => wpI G (fun _ _ _ => False) it1 ρ2 M2 fun xs1 g1 M3 => foldCz (bindT G (fun _ _ _ => False) tg1) (wpC G (fun _ _ _ => False) c1) (wpE G (fun _ _ _ => False) elt) (wipeD ρ2 vs1) g1 xs1 acc M3 Q2) (wipeD ρ (own.map (·.2))) g (xs.map Tc.d) acc M Q
  | [], acc, M, r, w => ⟨hg M r, by have := w.2 M r; rwa [List.map_nil, List.append_nil] at this⟩
  | x :: xs, acc, M, r, w => by
    refine ⟨hg M r, hb x _ _ M _ (r.wipe _) fun ρ1 r1 k1 => ?_⟩
    have hs : ∀ i, i ∉ own.map (·.2) → slot ρ1 i = slot ρ i := fun i hi => (k1 i fun z => hi (hn i z)).trans (slot_wipe hi)
    unfold Rs.cat2 at w
    have w := Rs.only_wp (Y := fun _ => False) (Rs.wp_bind.mp w)
    refine hc x _ ρ1 M _ r1 (Rs.only_wp (X := fun _ => False) (Rs.wp_mono (fun b q M2 r2 => ?_) (fun _ q => q) (Rs.wp_bind.mp w)))
    cases b with
    | true =>
      refine hi1 x _ ρ1 M2 _ r2 (Rs.only_wp (X := fun _ => False) (Rs.wp_mono (fun ys q g1 M3 r3 hg1 => ?_) (fun _ q => q) (Rs.wp_bind.mp q)))
      refine lcz_core (own := vs1) hn1 (hb1 x) (hm1 x) (hc1 x) (he x) hg1 ys acc M3 r3 (X := fun _ => False) (Rs.wp_mono (fun zs q => ⟨?_, fun M4 r4 => ?_⟩) (fun _ q => q) q)
      · have h := q
        rw [← Rs.cat2_only] at h
        rcases Rs.wp_some (Rs.only_wp (Y := fun _ => False) (Rs.wp_bind.mp h)) with ⟨us, h1, _⟩ | ⟨x, h⟩
        · rw [List.length_append] at h1; omega
        · exact h.elim
      · refine lc2_core' hn hv hn1 hb hm hc hi1 hb1 hm1 hc1 he hg xs _ M4 (r.back r4 (hm x) hs) (Rs.wp_mono (fun us q => ⟨?_, fun M' r' => ?_⟩) (fun _ q => q) (Rs.wp_bind.mp q))
        · have := q.1
          rw [List.length_append] at this ⊢
          rw [List.length_map]; omega
        · have := q.2 M' r'
          rwa [List.map_append, ← List.append_assoc] at this
    | false =>
      refine lc2_core' hn hv hn1 hb hm hc hi1 hb1 hm1 hc1 he hg xs acc M2 (r.back r2 (hm x) hs) (Rs.wp_mono (fun us q => ?_) (fun _ q => q) (Rs.wp_bind.mp q))
      exact q
theorem Ev.lc2 [Tc α] [Tc β] [Tc δ] {own : List (Str × Nat)} {vs1 : List Nat} {elt : E} {tg tg1 : TG1} {it it1 : IT} {c c1 : EO} {sA : α → List Sl} {sB : α → δ → List Sl} {tc : α → Rs Bool} {ti1 : α → Rs (List δ)} {tc1 : α → δ → Rs Bool} {te : α → δ → Rs β} {tl : Rs (List α)} (hi : ItC G F sh it tl)
    (hn : ∀ i ∈ tgN tg, i ∈ own.map (·.2)) (hv : ∀ i ∈ vs1, i ∈ own.map (·.2)) (hn1 : ∀ i ∈ tgN tg1, i ∈ vs1)
    (hb : ∀ x : α, Bd G F tg (Tc.d x) (wsh sh (own.map (·.2))) (sA x)) (hm : ∀ x, SM (own.map (·.2)) 0 sh (sA x)) (hc : ∀ x, EvC G F (sA x) c (tc x)) (hi1 : ∀ x, ItC G F (sA x) it1 (ti1 x))
    (hb1 : ∀ x (y : δ), Bd G F tg1 (Tc.d y) (wsh (sA x) vs1) (sB x y)) (hm1 : ∀ x y, SM vs1 0 (sA x) (sB x y)) (hc1 : ∀ x y, EvC G F (sB x y) c1 (tc1 x y)) (he : ∀ x y, Ev G F (sB x y) elt (Pv (α := β)) (te x y)) :
    Ev G F sh (.lc2 false own vs1 elt tg it c tg1 it1 c1) (Pv (α := Li β)) (tl.bind fun xs => (Rs.cat2 (fun x => (tc x).only.bind fun b => if b then (ti1 x).only.bind fun ys => Rs.comp (tc1 x) (te x) ys else .ok []) xs).bind fun ys => (lenR ys).bind fun ys => .ok ⟨ys⟩) := by
  intro W ρ M Q r w
  unfold wpE
  refine hi W ρ M _ r (Rs.wp_mono (fun xs q g M1 r1 hg => ?_) (fun _ q => q) (Rs.wp_bind.mp w))
  refine lc2_core' hn hv hn1 hb hm hc hi1 hb1 hm1 hc1 he hg xs [] M1 r1 (Rs.wp_mono (fun ys q => ?_) (fun _ q => q) (Rs.wp_bind.mp q))
  obtain ⟨h1, q⟩ := gd_wp (Rs.wp_bind.mp q)
  exact ⟨by simpa using h1, fun M' r' => q _ M' r' fun _ _ => rfl⟩
theorem EvM.lc2 [Tc α] [Tc β] [Tc δ] {own : List (Str × Nat)} {vs1 : List Nat} {elt : E} {tg tg1 : TG1} {it it1 : IT} {c c1 : EO} {sA : α → List Sl} {sB : α → δ → List Sl} {tc : α → Rs Bool} {ti1 : α → Rs (List δ)} {tc1 : α → δ → Rs Bool} {te : α → δ → Rs β} {tl : Rs (List α)} (hi : ItC G F sh it tl)
    (hn : ∀ i ∈ tgN tg, i ∈ own.map (·.2)) (hv : ∀ i ∈ vs1, i ∈ own.map (·.2)) (hn1 : ∀ i ∈ tgN tg1, i ∈ vs1)
    (hb : ∀ x : α, Bd G F tg (Tc.d x) (wsh sh (own.map (·.2))) (sA x)) (hm : ∀ x, SM (own.map (·.2)) 0 sh (sA x)) (hc : ∀ x, EvC G F (sA x) c (tc x)) (hi1 : ∀ x, ItC G F (sA x) it1 (ti1 x))
    (hb1 : ∀ x (y : δ), Bd G F tg1 (Tc.d y) (wsh (sA x) vs1) (sB x y)) (hm1 : ∀ x y, SM vs1 0 (sA x) (sB x y)) (hc1 : ∀ x y, EvC G F (sB x y) c1 (tc1 x y)) (he : ∀ x y, Ev G F (sB x y) elt (Pv (α := β)) (te x y)) :
    EvM G F sh (.lc2 true own vs1 elt tg it c tg1 it1 c1) (ml (α := β)) (tl.bind fun xs => (Rs.cat2 (fun x => (tc x).only.bind fun b => if b then (ti1 x).only.bind fun ys => Rs.comp (tc1 x) (te x) ys else .ok []) xs).bind fun ys => lenR ys) := by
  intro W ρ M Q r w
  unfold wpE
  refine hi W ρ M _ r (Rs.wp_mono (fun xs q g M1 r1 hg => ?_) (fun _ q => q) (Rs.wp_bind.mp w))
  refine lc2_core' hn hv hn1 hb hm hc hi1 hb1 hm1 hc1 he hg xs [] M1 r1 (Rs.wp_mono (fun ys q => ?_) (fun _ q => q) (Rs.wp_bind.mp q))
  obtain ⟨h1, q⟩ := gd_wp q
  exact ⟨by simpa using h1, fun M' r' => fun p hp => q p M' r' hp⟩
/-- .. of values that stand at once -/
theorem Ev.lc2P [Tc α] [Tc β] [Tc δ] {own : List (Str × Nat)} {vs1 : List Nat} {elt : E} {tg tg1 : TG1} {it it1 : IT} {sA : α → List Sl} {sB : α → δ → List Sl} {tl : Rs (List α)} (i1 : α → List δ) (f : α → δ → β) (hi : ItC G F sh it tl)
    (hn : ∀ i ∈ tgN tg, i ∈ own.map (·.2)) (hv : ∀ i ∈ vs1, i ∈ own.map (·.2)) (hn1 : ∀ i ∈ tgN tg1, i ∈ vs1)
    (hb : ∀ x : α, Bd G F tg (Tc.d x) (wsh sh (own.map (·.2))) (sA x)) (hm : ∀ x, SM (own.map (·.2)) 0 sh (sA x)) (hi1 : ∀ x, ItC G F (sA x) it1 (.ok (i1 x)))
    (hb1 : ∀ x (y : δ), Bd G F tg1 (Tc.d y) (wsh (sA x) vs1) (sB x y)) (hm1 : ∀ x y, SM vs1 0 (sA x) (sB x y)) (he : ∀ x y, Ev G F (sB x y) elt (Pv (α := β)) (.ok (f x y))) :
    Ev G F sh (.lc2 false own vs1 elt tg it .none tg1 it1 .none) (Pv (α := Li β)) (tl.bind fun xs => (lenR (xs.flatMap fun x => (i1 x).map (f x))).bind fun ys => .ok ⟨ys⟩) := by
  have h := Ev.lc2 hi hn hv hn1 hb hm (fun _ => EvC.none) hi1 hb1 hm1 (fun _ _ => EvC.none) he
  have e : ∀ (x : α) (ys : List δ), Rs.comp (fun _ => Rs.ok true) (fun y => Rs.ok (f x y)) ys = .ok (ys.map (f x)) := fun x ys => by rw [Rs.comp_map, Rs.mapR_ok]
  have e2 : (fun x : α => ((Rs.ok true).only.bind fun b => if b = true then (Rs.ok (i1 x)).only.bind fun ys => Rs.comp (fun _ => Rs.ok true) (fun y => Rs.ok (f x y)) ys else .ok [] : Rs (List β))) = fun x => .ok ((i1 x).map (f x)) := by
    funext x; exact e x (i1 x)
  simp only [e2, Rs.cat2_ok] at h
  exact h
end
end DS

/-! MR12: classes, exceptions that are caught -/
namespace DS
open PySem PySem.Spec PyProof.Rows L2
/-- an object that is looked at: its class, some of its fields, names that are none of them -/
def Vw (c : Str) (fs0 : List (Str × D)) (ms : List Str) : PP := fun _ M x => ∃ fs, flds M x = some (c, fs) ∧ (∀ p ∈ fs0, fs.lookup p.1 = some p.2) ∧ ∀ m ∈ ms, fs.lookup m = none
section
variable {G : Gam} {F : Fr} {xs sh : List Sl} {α β γ δ σ : Type} {e e1 e2 e3 : E} {ss : SL} {lf : γ → Lf}
/-- a field of an object that is looked at -/
theorem Ev.vfld [Ar α] [Tc β] {t : Rs α} {c f : Str} (g : α → β) {fs0 : α → List (Str × D)} {ms : List Str} (hP : ∀ v, Ar.P v = Vw c (fs0 v) ms) (hf : ∀ v, (f, Tc.d (g v)) ∈ fs0 v) (hG : (c, f) ∈ G.fl) (h : Ev G F sh e (Ar.P (α := α)) t) :
    Ev G F sh (.fld e f) (Pv (α := β)) (t.bind fun x => .ok (g x)) := by
  refine ev_one (f := fun x : α => .ok (g x)) (op := fun x M1 Q => match flds M1 x with
    | some (c, fs) => (c, f) ∈ G.fl ∧ match fs.lookup f with
      | some d => Q d M1
      | none => False
    | none => False) (fun _ _ _ _ => rfl) ?_ h
  intro a x dr M Q X p w
  rw [hP] at p
  obtain ⟨fs, h1, h2, _⟩ := p
  have h3 := h2 _ (hf a)
  show (match flds M x with
    | some (c, fs) => (c, f) ∈ G.fl ∧ match fs.lookup f with
      | some d => Q d M
      | none => False
    | none => False)
  rw [h1]
  simp only at h3 ⊢
  rw [h3]
  exact ⟨hG, w _ fun _ => rfl⟩
/-- a whole object, as one that is looked at -/
theorem Ev.toV [Tc α] [Ar β] {t : Rs α} (f : α → β) (hf : ∀ v dr M, Ar.P (f v) dr M (Tc.d v)) (h : Ev G F sh e (Pv (α := α)) t) : Ev G F sh e (Ar.P (α := β)) (t.map f) := h.imp f fun v dr M x q => by cases q; exact hf v dr M
/-- an object of ours, as one that is looked at -/
theorem Ev.mutV [Ar α] {i : Nat} {loc : Bool} {c : Str} {fs : List (Str × D)} {v : α} (hm : nth sh i = some (.mu loc (.ins c fs))) (hv : ∀ dr M x, flds M x = some (c, fs) → Ar.P v dr M x) : Ev G F sh (.var i) (Ar.P (α := α)) (.ok v) := by
  intro W ρ M Q r w
  obtain ⟨a, e, h1, _⟩ := r.sl i _ hm
  unfold wpE; rw [e]
  refine w _ M r fun M'' r'' => ?_
  obtain ⟨a', e', h1', _⟩ := r''.sl i _ hm
  rw [e] at e'; cases e'
  refine hv F.dr M'' _ ?_
  show (match M'' a with | some (.ins c fs) => some (c, fs) | _ => none) = _
  rw [h1']
/-- a field of an object of ours -/
theorem Ev.mutF [Tc α] {i : Nat} {loc : Bool} {c f : Str} {fs : List (Str × D)} {v : α} (hm : nth sh i = some (.mu loc (.ins c fs))) (hf : fs.lookup f = some (Tc.d v)) (hG : (c, f) ∈ G.fl) : Ev G F sh (.fld (.var i) f) (Pv (α := α)) (.ok v) := by
  intro W ρ M Q r w
  obtain ⟨a, e, h1, _⟩ := r.sl i _ hm
  have hw : wpE G W (.fld (.var i) f) ρ M Q = (match slot ρ i with
    | some d => (match flds M d with
      | some (c, fs) => (c, f) ∈ G.fl ∧ match fs.lookup f with
        | some d => Q d M
        | none => False
      | none => False)
    | none => False) := rfl
  rw [hw, e]
  show (match flds M (.ref a) with
      | some (c, fs) => (c, f) ∈ G.fl ∧ match fs.lookup f with
        | some d => Q d M
        | none => False
      | none => False)
  have h2 : flds M (.ref a) = some (c, fs) := by
    show (match M a with | some (.ins c fs) => some (c, fs) | _ => none) = _
    rw [h1]
  rw [h2]
  simp only [hf]
  exact ⟨hG, w _ M r fun _ _ => rfl⟩
theorem putD_new {f : Str} {d : D} : ∀ {fs : List (Str × D)}, (fs.map (·.1)).contains f = false → putD f d fs = fs ++ [(f, d)]
  | [], _ => rfl
  | (g, x) :: r, h => by
    rw [List.map_cons, List.contains_cons, Bool.or_eq_false_iff] at h
    unfold putD
    rw [if_neg (fun e => by rw [e] at h; simp at h), putD_new h.2]; rfl
/-- self.f = e, f new -/
theorem Sv.att [Tc α] {i : Nat} {loc : Bool} {c f : Str} {fs : List (Str × D)} {t1 : Rs α} {t2 : α → Rs γ} (hm : nth sh i = some (.mu loc (.ins c fs))) (hn : (fs.map (·.1)).contains f = false) (hl : Nat.blt fs.length 1000 = true) (hG : (c, f) ∈ G.fl) (wx : Wk sh xs) (h1 : Ev G F sh e (Pv (α := α)) t1)
    (h2 : ∀ v, Sv G F xs ss (sh.set i (.mu loc (.ins c (fs ++ [(f, Tc.d v)])))) (t2 v) lf) : Sv G F xs (.cons (.asg (.att (.var i) f) e) ss) sh (t1.bind t2) lf := by
  intro W R ρ M r k
  rw [wpSs_cons]; unfold wpS
  refine h1 W ρ M _ r (Rs.wp_mono (fun v q x M' r' p => ?_) (fun x q M' r' => q ρ M' (r'.wk wx)) (Rs.wp_bind.mp k))
  cases p M' r'
  obtain ⟨a, h3, h4, _⟩ := r'.sl i _ hm
  unfold bindT wpE
  rw [h3]
  show (match M' a with
      | some (.ins c fs) => (c, f) ∈ G.fl ∧ fs.length < 1000 ∧ wpSs' ss G W R ρ (mset M' a (.ins c (putD f (Tc.d v) fs)))
      | _ => False)
  rw [h4]
  refine ⟨hG, Nat.blt_eq.mp hl, ?_⟩
  rw [putD_new hn]
  exact h2 v W R ρ _ (r'.wr hm h3) q
theorem Sv.attP [Tc α] {i : Nat} {loc : Bool} {c f : Str} {fs : List (Str × D)} {v : α} {t : Rs γ} (hm : nth sh i = some (.mu loc (.ins c fs))) (hn : (fs.map (·.1)).contains f = false) (hl : Nat.blt fs.length 1000 = true) (hG : (c, f) ∈ G.fl) (h1 : Ev G F sh e (Pv (α := α)) (.ok v))
    (h2 : Sv G F xs ss (sh.set i (.mu loc (.ins c (fs ++ [(f, Tc.d v)])))) t lf) : Sv G F xs (.cons (.asg (.att (.var i) f) e) ss) sh t lf := by
  intro W R ρ M r k
  rw [wpSs_cons]; unfold wpS
  refine h1 W ρ M _ r ?_
  intro x M' r' p
  cases p M' r'
  obtain ⟨a, h3, h4, _⟩ := r'.sl i _ hm
  unfold bindT wpE
  rw [h3]
  show (match M' a with
      | some (.ins c fs) => (c, f) ∈ G.fl ∧ fs.length < 1000 ∧ wpSs' ss G W R ρ (mset M' a (.ins c (putD f (Tc.d v) fs)))
      | _ => False)
  rw [h4]
  refine ⟨hG, Nat.blt_eq.mp hl, ?_⟩
  rw [putD_new hn]
  exact h2 W R ρ _ (r'.wr hm h3) k
end
/-- what __init__ makes of the arguments -/
def spI {A C : Type} [Arg A] [Tc C] (c : Str) (t : A → Rs C) : SpD := fun ds M R RX => ∃ (dr : Dw) (a : A) (p : Addr) (ds' : List D), ds = .ref p :: ds' ∧ M p = some (.ins c []) ∧ DrOk dr M ∧ ¬ inDr dr p ∧ (∀ M', MLe dr [p] M M' → Arg.P a dr M' ds') ∧
  (t a).wp (fun v => ∀ M' fs, MLe dr [p] M M' → Tc.d v = .ins c fs → M' p = some (.ins c fs) → R .non M') (fun x => ∀ M', MLe dr [p] M M' → RX x M')
theorem MLe.drop {dr : Dw} {p : Addr} {o : MO} {M M' : Mp} (hp : M p = none) (hd : DrOk dr M) (h : MLe dr [p] (mset M p o) M') : MLe dr [] M M' ∧ MLe dr [] M (mdel M' p) := by
  have np : ∀ a u, M a = some u → a ≠ p := fun a u e z => by subst z; rw [hp] at e; cases e
  have k : ∀ a u, M a = some u → ¬ inDr dr a → M' a = some u := fun a u e n => h.keep a u (by rw [mset_ne (np a u e)]; exact e) n (by simpa using np a u e)
  have d0 : DrOk dr (mset M p o) := hd.congr fun a ha => by obtain ⟨u, z⟩ := hd.some ha; exact mset_ne (np a u z)
  have d1 := h.draw d0
  refine ⟨⟨fun a u e n _ => k a u e n, fun _ => d1, fun _ z => by cases z⟩, ⟨fun a u e n _ => by rw [mdel_ne (np a u e)]; exact k a u e n, fun _ => d1.congr fun a ha => ?_, fun _ z => by cases z⟩⟩
  obtain ⟨u, z⟩ := hd.some ha
  exact mdel_ne (np a u z)
theorem Ev.new {G : Gam} {F : Fr} {sh : List Sl} {A C : Type} [Arg A] [Tc C] {k : Nat} {c m : Str} {es : EL} {t : A → Rs C} {ts : Rs A} (hG : nth G.mt k = some (c, m, Arg.len A + 1, spI c t)) (hC : ∀ v : C, ∃ fs, Tc.d v = .ins c fs) (hs : EvL G F sh es (Arg.P (A := A)) ts) : Ev G F sh (.new true k es) (Pv (α := C)) (ts.bind t) := by
  intro W ρ M Q r w
  unfold wpE
  rw [hG]
  refine hs W ρ M _ r (Rs.wp_mono (fun a q xs M1 r1 p1 => ?_) (fun _ q => q) (Rs.wp_bind.mp w))
  refine ⟨by rw [Arg.n a F.dr M1 xs (p1 M1 r1)], fun p hp => ?_⟩
  have hfr := r1.fresh hp
  have hd := drIn r1
  refine ⟨F.dr, a, p, xs, rfl, mset_same, ?_, hfr.2.1, fun M' h => p1 M' (r1.mono (MLe.drop hp hd h).1), Rs.wp_mono (fun v q M' fs h hv hm => ?_) (fun x q M' h => q M' (r1.mono (MLe.drop hp hd h).1)) q⟩
  · exact hd.congr fun b hb => by obtain ⟨u, z⟩ := hd.some hb; exact mset_ne fun e => by subst e; rw [hp] at z; cases z
  · refine ⟨rfl, ?_⟩
    show (match M' p with | some (.ins c fs) => Q (.ins c fs) (mdel M' p) | _ => False)
    rw [hm]
    exact q _ _ (r1.mono (MLe.drop hp hd h).2) fun _ _ => hv.symm
theorem fn_wpI {A C : Type} [Arg A] [Tc C] {c : Str} {t : A → Rs C} {G : Gam} {N : List Str} {body : SL} {k : Nat} (obj : C → List (Str × D)) (hobj : ∀ v, Tc.d v = .ins c (obj v)) (sh : A → List Sl) (hs : ∀ a, sh a = Sl.mu false (.ins c []) :: (Arg.sh a ++ List.replicate k .junk)) (hk : ∀ a, (sh a).length = N.length) (hN : Arg.len A + 1 ≤ N.length)
    (h : ∀ (F : Fr) (a : A), Sv G F [] body (sh a) (t a) fun v => .nx [.mu false (.ins c (obj v))]) :
    ∀ ds M R RX, ds.length = Arg.len A + 1 → spI c t ds M R RX → wpSs G (fun x _ M => RX x M) body ⟨fun _ M => R .non M, R, fun _ _ => False, fun _ _ => False⟩ (startD N ds) M := by
  rintro ds M R RX hl ⟨dr, a, p, ds', rfl, hp, hd, hnd, ha, w⟩
  let F : Fr := ⟨N.length, M, [p], dr⟩
  have h0 : Rel F (sh a) (startD N (.ref p :: ds')) M := by
    refine ⟨?_, by rw [hk]; exact Nat.le_refl _, fun i s e => ?_, fun i j l l' o o' b hij h1 h2 h3 h4 => ?_, .refl, hd, fun b hb => ?_⟩
    · show (startD N (.ref p :: ds')).length = N.length
      unfold startD; simp at hl ⊢; omega
    · rw [hs] at e
      cases i with
      | zero => cases e; exact ⟨p, rfl, hp, List.mem_singleton.mpr rfl, hnd⟩
      | succ i =>
        have e : nth (Arg.sh a ++ List.replicate k .junk) i = some s := e
        rcases nth_rep e with q | q
        · subst q; trivial
        · obtain ⟨P, x, rfl, h2, h3⟩ := Arg.st a F ds' ha i s q
          exact ⟨x, nth_startD (i := i + 1) h2, h3⟩
    · rw [hs] at h1 h2
      have nomu : ∀ {i l o}, nth (Arg.sh a ++ List.replicate k Sl.junk) i = some (.mu l o) → False := fun {i l o} e => by
        rcases nth_rep e with q | q
        · cases q
        · obtain ⟨P, x, q, _⟩ := Arg.st a F ds' ha i _ q; cases q
      cases i with
      | zero => cases j with
        | zero => exact hij rfl
        | succ j => exact nomu h2
      | succ i => exact nomu h1
    · rw [List.mem_singleton.mp hb]; show M p ≠ none; rw [hp]; exact fun z => by cases z
  refine h F a _ _ _ M h0 (Rs.wp_mono (fun v q => ?_) (fun x q ρ' M' r' => q M' r'.fr) w)
  intro ρ' M' r'
  obtain ⟨b, e1, e2, e3⟩ := r'.sl 0 _ rfl
  have e3 : b ∈ [p] ∧ _ := e3
  rw [List.mem_singleton.mp e3.1] at e2
  exact q M' (obj v) r'.fr (hobj v) e2
/-! ### exceptions that are caught -/
namespace Rs
variable {α : Type}
def catchR (h : XD → Rs α) : Rs α → Rs α
  | .ok a => .ok a
  | .ex x => h x
  | .no => .no
  | .dr l k => .dr l fun v => (k v).catchR h
theorem wp_catch {h : XD → Rs α} {Q : α → Prop} {X : XD → Prop} : ∀ {t : Rs α}, (t.catchR h).wp Q X → t.wp Q fun x => (h x).wp Q X
  | .ok a, w => w
  | .ex x, w => w
  | .no, w => w
  | .dr l k, w => ⟨w.1, w.2.1, fun v a b => wp_catch (w.2.2 v a b)⟩
end Rs
/-- the clauses, one after the other -/
def pick {α : Type} (sub : List (Str × List Str)) (x : XD) : List (Str × (XD → Rs α)) → Rs α
  | [] => .ex x
  | (k, h) :: r => match sub.lookup x.1 with
    | some ks => if k ∈ ks then h x else pick sub x r
    | none => .no
section
variable {G : Gam} {F : Fr} {xs shx sh : List Sl} {α β γ σ : Type} {e : E} {ss : SL}
/-- the clauses' worth -/
inductive Hv (G : Gam) (F : Fr) (xs shx : List Sl) (lf : γ → Lf) : HL → List (Str × (XD → Rs γ)) → Prop
  | nil : Hv G F xs shx lf .nil []
  | cons {k : Str} {b : SL} {r : HL} {h : XD → Rs γ} {hs : List (Str × (XD → Rs γ))} (hb : ∀ (a : Addr) (x : XD), Sv { G with cur := some (a, x) } F [] b shx (h x) fun c => lf c) (hno : ∀ x, (h x).only = h x) : Hv G F xs shx lf r hs → Hv G F xs shx lf (.cons k none b r) ((k, h) :: hs)
  | named {k : Str} {i : Nat} {b : SL} {r : HL} {h : XD → Rs γ} {hs : List (Str × (XD → Rs γ))} (hi : Nat.blt i shx.length = true) (hb : ∀ (a : Addr) (x : XD), Sv { G with cur := some (a, x) } F [] b (shx.set i (.ar fun _ _ y => y = .ref a)) (h x) lf) (hno : ∀ x, (h x).only = h x)
      (hlf : ∀ c R, (lf c).sat F R → (lf c).sat F { nx := fun ρ' M' => R.nx (ρ'.set i none) M', rt := R.rt, bk := fun ρ' M' => R.bk (ρ'.set i none) M', ct := fun ρ' M' => R.ct (ρ'.set i none) M' }) : Hv G F xs shx lf r hs → Hv G F xs shx lf (.cons k (some i) b r) ((k, h) :: hs)
theorem Hv.run {lf : γ → Lf} {hl : HL} {hs : List (Str × (XD → Rs γ))} (h : Hv G F xs shx lf hl hs) (wx : Wk shx xs) {W : XW} {R : EndsD} {x : XD} {ρ : Env1} {M : Mp} (r : Rel F shx ρ M) (w : (pick G.sub x hs).wp (fun c => (lf c).sat F R) (fun x => ∀ ρ' M', Rel F xs ρ' M' → W x ρ' M')) : wpH hl G W R x ρ M := by
  induction h with
  | nil => unfold wpH; exact w ρ M (r.wk wx)
  | @cons k b r' h hs hb hno hr ih =>
    unfold wpH
    unfold pick at w
    cases e : G.sub.lookup x.1 with
    | none => rw [e] at w; exact w.elim
    | some ks =>
      rw [e] at w
      simp only at w ⊢
      refine ⟨fun hk a ha => ?_, fun hk => ih ?_⟩
      · rw [if_pos hk, ← hno x] at w
        exact hb a x (fun _ _ _ => False) R ρ M r (Rs.wp_mono (fun _ q => q) (fun _ q => q.elim) (Rs.only_wp (Y := fun _ => False) w))
      · rw [if_neg hk] at w; exact w
  | @named k i b r' h hs hi hb hno hlf hr ih =>
    unfold wpH
    unfold pick at w
    cases e : G.sub.lookup x.1 with
    | none => rw [e] at w; exact w.elim
    | some ks =>
      rw [e] at w
      simp only at w ⊢
      refine ⟨fun hk a ha => ?_, fun hk => ih ?_⟩
      · rw [if_pos hk, ← hno x] at w
        exact hb a x (fun _ _ _ => False) _ _ M (r.set (lt_n r hi) fun _ _ => rfl) (Rs.wp_mono (fun c q => hlf c R q) (fun _ q => q.elim) (Rs.only_wp (Y := fun _ => False) w))
      · rw [if_neg hk] at w; exact w
/-- try .. except -/
theorem Sv.try {b : SL} {hl : HL} {hs : List (Str × (XD → Rs (Ct σ β)))} {tb : Rs (Ct σ β)} {t2 : σ → Rs γ} {lf : γ → Lf} {lr : β → Lf} (post : σ → List Sl) (g : β → γ) (hr : ∀ v, lf (g v) = lr v) (hp : ∀ v R R', (lr v).sat F R → R.rt = R'.rt → (lr v).sat F R') (wx : Wk shx xs)
    (hb : Sv G F shx b sh tb (lfC post lr)) (hh : Hv G F xs shx (lfC post lr) hl hs) (h2 : ∀ s, Sv G F xs ss (post s) (t2 s) lf) :
    Sv G F xs (.cons (.try b hl) ss) sh ((tb.catchR fun x => pick G.sub x hs).bind fun c => c.el t2 (fun v => .ok (g v)) fun _ => .no) lf := by
  intro W R ρ M r k
  rw [wpSs_cons]; unfold wpS
  have key : ∀ c : Ct σ β, (c.el t2 (fun v => Rs.ok (g v)) fun _ => Rs.no).wp (fun c => (lf c).sat F R) (fun x => ∀ ρ' M', Rel F xs ρ' M' → W x ρ' M') → (lfC post lr c).sat F { R with nx := wpSs' ss G W R } := fun c q => by
    cases c with
    | nx s => exact fun ρ' M2 r2 => h2 s W R ρ' M2 r2 q
    | rt v =>
      have q : (lf (g v)).sat F R := q
      rw [hr] at q
      exact hp v R _ q rfl
    | bk s => exact (q : False).elim
  refine hb _ _ ρ M r (Rs.wp_mono (fun c q => key c q) (fun x q ρ' M' r' => ?_) (Rs.wp_catch (Rs.wp_bind.mp k)))
  exact hh.run wx r' (Rs.wp_mono (fun c q => key c q) (fun _ q => q) q)
/-- isinstance of the exception that is held -/
def exiR (sub : List (Str × List Str)) (xi : List Str) (x : XD) (k : Str) : Rs Bool := match sub.lookup x.1 with
  | some ks => if x.2.isEmpty = true ∧ x.1 ∈ xi then .ok (decide (k ∈ ks)) else .no
  | none => .no
theorem Ev.exi {i : Nat} {k : Str} {a : Addr} {x : XD} (hc : G.cur = some (a, x)) (hm : nth sh i = some (.ar fun _ _ y => y = .ref a)) : Ev G F sh (.exi i k) (Pv (α := Bool)) (exiR G.sub G.xi x k) := by
  intro W ρ M Q r w
  unfold wpE
  obtain ⟨y, e, hy⟩ := r.sl i _ hm
  have hy : y = .ref a := hy M r.fr
  subst hy
  rw [hc, e]
  unfold exiR at w
  show a = a ∧ x.2 = [] ∧ x.1 ∈ G.xi ∧ (match G.sub.lookup x.1 with | some ks => Q (.bl (decide (k ∈ ks))) M | none => False)
  cases el : G.sub.lookup x.1 with
  | none => rw [el] at w; exact w.elim
  | some ks =>
    rw [el] at w
    have w : (if x.2.isEmpty = true ∧ x.1 ∈ G.xi then Rs.ok (decide (k ∈ ks)) else .no : Rs Bool).wp _ _ := w
    split at w
    · rename_i hh
      exact ⟨rfl, List.isEmpty_iff.mp hh.1, hh.2, w _ M r fun _ _ => rfl⟩
    · exact w.elim
theorem hlf_rt {P : β → PP} {i : Nat} : ∀ c R, (Lf.rt (P c)).sat F R → (Lf.rt (P c)).sat F { nx := fun ρ' M' => R.nx (ρ'.set i none) M', rt := R.rt, bk := fun ρ' M' => R.bk (ρ'.set i none) M', ct := fun ρ' M' => R.ct (ρ'.set i none) M' } := fun c R h => h
end
end DS
namespace DS
open PySem PySem.Spec PyProof.Rows L2
theorem look_of {fs : List (Str × D)} {f : Str} {d : D} (hn : (fs.map (·.1)).Nodup) (h : (f, d) ∈ fs) : fs.lookup f = some d := by
  induction fs with
  | nil => cases h
  | cons p fs ih =>
    rw [List.map_cons, List.nodup_cons] at hn
    cases h with
    | head => rw [List.lookup_cons]; simp
    | tail _ h =>
      rw [List.lookup_cons]
      have : (f == p.1) = false := beq_eq_false_iff_ne.mpr fun e => hn.1 (e ▸ List.mem_map.mpr ⟨_, h, rfl⟩)
      rw [this]
      exact ih hn.2 h
theorem look_no {fs : List (Str × D)} {f : Str} (h : f ∉ fs.map (·.1)) : fs.lookup f = none := by
  induction fs with
  | nil => rfl
  | cons p fs ih =>
    rw [List.map_cons, List.mem_cons, not_or] at h
    rw [List.lookup_cons, beq_eq_false_iff_ne.mpr h.1]
    exact ih h.2
theorem sub0 (fs : List (Str × D)) : ∀ p ∈ ([] : List (Str × D)), p ∈ fs := fun _ h => by cases h
theorem sub1 {fs fs0 : List (Str × D)} {p : Str × D} (h : p ∈ fs) (hs : ∀ q ∈ fs0, q ∈ fs) : ∀ q ∈ p :: fs0, q ∈ fs := fun q hq => by
  cases hq with
  | head => exact h
  | tail _ z => exact hs q z
theorem sub_mem {fs fs0 : List (Str × D)} (h : ∀ q ∈ fs0, q ∈ fs) : ∀ q ∈ fs0, q ∈ fs := h
theorem vw_of {fs fs0 : List (Str × D)} {ms : List Str} {c : Str} {dr : Dw} {M : Mp} {x : D} (hn : (fs.map (·.1)).Nodup) (hs : ∀ p ∈ fs0, p ∈ fs) (hm : ∀ m ∈ ms, m ∉ fs.map (·.1)) (h : flds M x = some (c, fs)) : Vw c fs0 ms dr M x :=
  ⟨fs, h, fun p hp => look_of hn (hs p hp), fun m h => look_no (hm m h)⟩
theorem fld_of {fs : List (Str × D)} {c f : Str} {d : D} (hn : (fs.map (·.1)).Nodup) (h : (f, d) ∈ fs) : fldD (.ins c fs) f = some (c, d) := by
  show (match fs.lookup f with | some x => some (c, x) | none => none) = _
  rw [look_of hn h]
theorem ho_of {fs : List (Str × D)} {ms : List Str} {c m : Str} {M : Mp} {x : D} (p : x = .ins c fs) (hm : ∀ m ∈ ms, m ∉ fs.map (·.1)) (h : m ∈ ms) : ∃ fs, flds M x = some (c, fs) ∧ fs.lookup m = none := by
  subst p
  exact ⟨fs, rfl, look_no (hm m h)⟩
theorem Sv.bad {G : Gam} {F : Fr} {xs sh : List Sl} {γ : Type} {ss : SL} {lf : γ → Lf} : Sv G F xs (.cons .bad ss) sh .no lf := fun W R ρ M r k => (k : False).elim
section
variable {G : Gam} {F : Fr} {sh : List Sl} {e e1 e2 : E}
/-- the signs of a text -/
def dChars (d : D) : Rs (List D) := match d with
  | .str z => if z.length ≤ 16777216 then .ok (z.cps.toList.map fun c => .str ⟨#[c]⟩) else .no
  | _ => .no
theorem It.chars {t : Rs D} (h : Ev G F sh e (Pv (α := D)) t) : It G F sh (.chars e) (t.bind dChars) := by
  intro W ρ M Q r w
  unfold wpI
  refine h W ρ M _ r (Rs.wp_mono (fun d q x M' r' p => ?_) (fun _ q => q) (Rs.wp_bind.mp w))
  have hx : x = d := p M' r'
  subst hx
  cases x with
  | str z =>
    unfold dChars at q
    simp only at q
    split at q
    · rename_i hz
      have q := q (fun _ => True) M' r' fun _ => trivial
      rw [show List.map Tc.d (z.cps.toList.map fun c => D.str ⟨#[c]⟩) = z.cps.toList.map fun c => D.str ⟨#[c]⟩ from List.map_id _] at q
      exact ⟨hz, q⟩
    · exact q.elim
  | _ => exact q.elim
/-- one sign in a text -/
def dSign (d : D) (s : String) : Rs Bool := match d with
  | .str z => match z.cps.toList with
    | [c] => .ok (decide (c ∈ s.toList.map Char.toNat))
    | _ => .no
  | _ => .no
theorem sign_in {z : Str} {c : Nat} {s : String} (h : z.cps.toList = [c]) : (!(Builtin.Str.occurrences (sd s) z 0 (sd s).length 1).isEmpty) = decide (c ∈ s.toList.map Char.toNat) := by
  have hz : z = ⟨#[c]⟩ := by
    cases z with
    | mk a =>
      have : a.toList = [c] := h
      rw [show a = #[c] from by rw [← Array.toList_inj]; exact this]
  subst hz
  rw [PySem.StrLaws.found_one (sd s) c, sd_eq]
theorem Ev.inSign {t1 : Rs D} {t2 : Rs String} (h1 : Ev G F sh e1 (Pv (α := D)) t1) (h2 : Ev G F sh e2 (Pv (α := String)) t2) : Ev G F sh (.cmp .In e1 e2) (Pv (α := Bool)) (t1.bind fun x => t2.bind fun y => dSign x y) := by
  refine ev_two (f := dSign) (op := fun x y M Q => cmpD .In x y M Q) (fun _ _ _ _ => rfl) ?_ h1 h2
  rintro d s x _ dr M Q X hx rfl w
  have hx : x = d := hx
  subst hx
  cases x with
  | str z =>
    show Q (.bl (!(Builtin.Str.occurrences (sd s) z 0 (sd s).length 1).isEmpty)) M
    unfold dSign at w
    simp only at w
    split at w
    · rename_i c e
      rw [sign_in e]
      exact w _ fun _ => rfl
    · exact w.elim
  | _ => exact w.elim
theorem Ev.notInSign {t1 : Rs D} {t2 : Rs String} (h1 : Ev G F sh e1 (Pv (α := D)) t1) (h2 : Ev G F sh e2 (Pv (α := String)) t2) : Ev G F sh (.cmp .NotIn e1 e2) (Pv (α := Bool)) (t1.bind fun x => t2.bind fun y => (dSign x y).bind fun b => .ok (!b)) := by
  refine ev_two (f := fun x y => (dSign x y).bind fun b => .ok (!b)) (op := fun x y M Q => cmpD .NotIn x y M Q) (fun _ _ _ _ => rfl) ?_ h1 h2
  rintro d s x _ dr M Q X hx rfl w
  have hx : x = d := hx
  subst hx
  cases x with
  | str z =>
    show Q (.bl (!(!(Builtin.Str.occurrences (sd s) z 0 (sd s).length 1).isEmpty))) M
    unfold dSign at w
    simp only at w
    split at w
    · rename_i c e
      rw [sign_in e]
      exact w _ fun _ => rfl
    · exact w.elim
  | _ => exact w.elim
/-! ### == of plain data -/
def dEq (x y : D) : Rs Bool := match pyF x, pyF y with
  | some a, some b => if SeqAt.shaped a = true ∧ SeqAt.shaped b = true then .ok (PyData.eqv a b) else .no
  | _, _ => .no
def dNe (x y : D) : Rs Bool := (dEq x y).bind fun b => .ok (!b)
theorem Ev.eqD {t1 t2 : Rs D} (h1 : Ev G F sh e1 (Pv (α := D)) t1) (h2 : Ev G F sh e2 (Pv (α := D)) t2) : Ev G F sh (.cmp .Eq e1 e2) (Pv (α := Bool)) (t1.bind fun x => t2.bind fun y => dEq x y) := by
  refine ev_two (f := dEq) (op := fun x y M Q => cmpD .Eq x y M Q) (fun _ _ _ _ => rfl) ?_ h1 h2
  rintro a b x y dr M Q X hx hy w
  have hx : x = a := hx
  have hy : y = b := hy
  subst hx hy
  unfold dEq at w
  split at w
  · rename_i p q e1 e2
    split at w
    · rename_i hh
      show cmpD .Eq x y M Q
      unfold cmpD
      rw [pyOf_of e1, pyOf_of e2]
      exact ⟨hh.1, hh.2, w _ fun _ => rfl⟩
    · exact w.elim
  · exact w.elim
theorem Ev.neD {t1 t2 : Rs D} (h1 : Ev G F sh e1 (Pv (α := D)) t1) (h2 : Ev G F sh e2 (Pv (α := D)) t2) : Ev G F sh (.cmp .NotEq e1 e2) (Pv (α := Bool)) (t1.bind fun x => t2.bind fun y => dNe x y) := by
  refine ev_two (f := dNe) (op := fun x y M Q => cmpD .NotEq x y M Q) (fun _ _ _ _ => rfl) ?_ h1 h2
  rintro a b x y dr M Q X hx hy w
  have hx : x = a := hx
  have hy : y = b := hy
  subst hx hy
  unfold dNe dEq at w
  split at w
  · rename_i p q e1 e2
    split at w
    · rename_i hh
      show cmpD .NotEq x y M Q
      unfold cmpD
      rw [pyOf_of e1, pyOf_of e2]
      exact ⟨hh.1, hh.2, w _ fun _ => rfl⟩
    · exact w.elim
  · exact w.elim
end
/-- a text among plain data -/
instance : Dn String := ⟨fun d => match d with
  | .str z => let s := String.ofList (z.cps.toList.map fun n => Char.ofNat n); if sd s = z then some s else none
  | _ => none, fun d a h => by
  cases d with
  | str z =>
    simp only at h
    split at h
    · rename_i e; cases h; show D.str z = D.str (sd _); rw [e]
    · cases h
  | _ => cases h⟩
theorem dn_str (s : String) : (Dn.dn (Tc.d s : D) : Option String) = some s := by
  show (let t := String.ofList ((sd s).cps.toList.map fun n => Char.ofNat n); if sd t = sd s then some t else none) = some s
  have : String.ofList ((sd s).cps.toList.map fun n => Char.ofNat n) = s := by
    rw [sd_eq]
    show String.ofList ((s.toList.map Char.toNat).map fun n => Char.ofNat n) = s
    rw [List.map_map]
    have : ((fun n => Char.ofNat n) ∘ Char.toNat) = id := by funext c; exact Char.ofNat_toNat c
    rw [this, List.map_id, String.ofList_toList]
  simp only [this, if_true]
end DS

/-! MR13: a law's tables -/
namespace DS
open PySem PySem.Spec PyProof.Rows L2
def inClass (s : Stmt) (j : Nat) : Stmt := match s with
  | .ClassDef _ _ _ b _ _ _ _ _ _ _ => b.getD j (.Pass ⟨0, 0, 0, 0⟩)
  | _ => .Pass ⟨0, 0, 0, 0⟩
theorem sp_void {A β : Type} [Arg A] [Tc β] {t : A → Rs β} (h : ∀ a, t a = .no) : ∀ ds M R RX, ¬ sp t ds M R RX := by
  rintro ds M R RX ⟨dr, a, _, _, w⟩
  rw [h a] at w
  exact w
section
variable {P : Program} {w : World} {K : PySem.W.Frag} {mg : Str → Option Value} {base : Heap} {lvl : Nat} {G : Gam} {nm : Nm}
theorem Tab.int {x : Str} {i : Int} (T : Tab P w K mg base lvl G nm) (h : ∃ t, mg x = some (.int i t)) : Tab P w K mg base lvl { G with cst := .int i :: G.cst } { nm with cst := x :: nm.cst } := by
  obtain ⟨t, g⟩ := h
  exact T.cstc (v := .int i) g ⟨t, rfl⟩ fun _ _ _ _ => .int i
theorem Tab.str {x z : Str} (T : Tab P w K mg base lvl G nm) (h : ∃ t, mg x = some (.str z t)) : Tab P w K mg base lvl { G with cst := .str z :: G.cst } { nm with cst := x :: nm.cst } := by
  obtain ⟨t, g⟩ := h
  exact T.cstc (v := .str z) g ⟨t, rfl⟩ fun _ _ _ _ => .str z
theorem excS_ok {h : Heap} (X : K.In h) (G : h.Ns mainGlobals mg) {x : Str} (c1 : (He.Fa.glo x).ok K = true) (c2 : (He.Fa.exc x).ok K = true) : ExcS K mg x (He.ga K x) := by
  obtain ⟨a, b, c, d⟩ := He.exc_ok c2
  exact ⟨He.glo_ok X G c1, a, b, c, d⟩
end
end DS

/-! MR14: more facts of the end: tuples that stand outside, exceptions' classes -/
namespace DS
open PySem PySem.Spec PyProof.Rows L2
mutual
/-- an unchanging value of ours is what stands there -/
def repB (K : PySem.W.Frag) : D → Value → Bool
  | .int i, u => (match u with | .int j _ => decide (i = j) | _ => false)
  | .str x, u => (match u with | .str y _ => decide (x = y) | _ => false)
  | .bl x, u => (match u with | .bool y => decide (x = y) | _ => false)
  | .tup ds, u => (match u with
    | .ref a => (match K.lookup a with
      | some ⟨.type c, _, .seq its _, _⟩ => decide (c = "tuple") && (decide (its.size ≤ sizeLine) && repsB K ds its.toList)
      | _ => false)
    | _ => false)
  | _, _ => false
def repsB (K : PySem.W.Frag) : List D → List Value → Bool
  | [], [] => true
  | d :: ds, u :: us => repB K d u && repsB K ds us
  | _, _ => false
end
mutual
theorem repB_ok {K : PySem.W.Frag} : ∀ {d : D} {u : Value}, repB K d u = true → ∃ v, RelV v u ∧ ∀ mg an Pp H M, Rep ⟨K, mg, Pp, an⟩ H M d v
  | .int i, u, h => by
    unfold repB at h
    cases u with
    | int j t => exact ⟨.int i, ⟨t, by rw [of_decide_eq_true h]⟩, fun _ _ _ _ _ => .int i⟩
    | _ => cases h
  | .str i, u, h => by
    unfold repB at h
    cases u with
    | str j t => exact ⟨.str i, ⟨t, by rw [of_decide_eq_true h]⟩, fun _ _ _ _ _ => .str i⟩
    | _ => cases h
  | .bl i, u, h => by
    unfold repB at h
    cases u with
    | bool j => exact ⟨.bl i, by rw [of_decide_eq_true h]; rfl, fun _ _ _ _ _ => .bl i⟩
    | _ => cases h
  | .tup ds, u, h => by
    unfold repB at h
    cases u with
    | ref a =>
      cases q : K.lookup a with
      | none => simp only [q] at h; cases h
      | some o =>
        obtain ⟨oc, od, dt, osl⟩ := o
        simp only [q] at h
        cases oc with
        | type c =>
          cases dt with
          | seq its n =>
            obtain ⟨h1, h2⟩ := He.ba h
            obtain ⟨h3, h4⟩ := He.ba h2
            obtain ⟨vs, h5, h6⟩ := repsB_ok h4
            exact ⟨.ref a, rfl, fun mg an Pp H M => .tup (.inr ⟨_, its, n, q, congrArg Value.type (of_decide_eq_true h1), rfl, of_decide_eq_true h3, h5⟩) (h6 mg an Pp H M)⟩
          | _ => cases h
        | _ => cases dt <;> cases h
    | _ => cases h
  | .non, u, h => by unfold repB at h; cases h
  | .lst _, u, h => by unfold repB at h; cases h
  | .frl _, u, h => by unfold repB at h; cases h
  | .dic _, u, h => by unfold repB at h; cases h
  | .ins _ _, u, h => by unfold repB at h; cases h
  | .ref _, u, h => by unfold repB at h; cases h
  | .glo _, u, h => by unfold repB at h; cases h
theorem repsB_ok {K : PySem.W.Frag} : ∀ {ds : List D} {us : List Value}, repsB K ds us = true → ∃ vs, Vals vs us ∧ ∀ mg an Pp H M, Reps ⟨K, mg, Pp, an⟩ H M ds vs
  | [], [], _ => ⟨[], .nil, fun _ _ _ _ _ => .nil⟩
  | [], _ :: _, h => by unfold repsB at h; cases h
  | _ :: _, [], h => by unfold repsB at h; cases h
  | d :: ds, u :: us, h => by
    unfold repsB at h
    obtain ⟨h1, h2⟩ := He.ba h
    obtain ⟨v, r1, r2⟩ := repB_ok h1
    obtain ⟨vs, r3, r4⟩ := repsB_ok h2
    exact ⟨v :: vs, .cons r1 r3, fun mg an Pp H M => .cons (r2 mg an Pp H M) (r4 mg an Pp H M)⟩
end
/-- facts of our own -/
inductive Fx where
  | val (x : Str) (d : D)
  | kit (x y : Str) (b : Bool)
  | kitT (x : Str) (T : String) (b : Bool)
  | xc (x : Str)
def Fx.ok (K : PySem.W.Frag) : Fx → Bool
  | .val x d => (match PySem.W.nsIn K mainGlobals x with
    | some (some u) => repB K d u
    | _ => false)
  | .kit x y b => decide (PySem.W.exmOne K (.ref (He.ga K x)) (.ref (He.ga K y)) = some b) && decide (PySem.W.kitOne K (.ref (He.ga K x)) (.ref (He.ga K y)) = some b)
  | .kitT x T b => decide (PySem.W.exmOne K (.ref (He.ga K x)) (.type T) = some b) && decide (PySem.W.kitOne K (.ref (He.ga K x)) (.type T) = some b)
  | .xc x => decide (PySem.W.findIn K (.ref (He.ga K x)) "__getattribute__" = some (some (.builtin "BaseException.__getattribute__"))) && (decide (PySem.W.findIn K (.ref (He.ga K x)) "__getattr__" = some none) &&
    (decide (PySem.W.subIn K (.ref (He.ga K x)) (.type "BaseException") = some true) && (decide (PySem.W.hasDictIn K (He.ga K x) = true) && (decide (PySem.W.findIn K (.ref (He.ga K x)) "__class__" = some (some (.builtin "object.__class__"))) &&
    (decide (PySem.W.specialIn K (.builtin "object.__class__") "__get__" = some (some (.builtin "getset_descriptor.__get__"))) && (decide (PySem.W.takesIn K (.builtin "object.__class__") = some true) && decide (PySem.W.mroIn K (He.ga K x) (.type "object") = some true)))))))
section
variable {P : Program} {w : World} {K : PySem.W.Frag} {mg : Str → Option Value} {base h : Heap} {lvl : Nat} {G : Gam} {nm : Nm}
theorem Tab.val {x : Str} {d : D} (T : Tab P w K mg base lvl G nm) (X : K.In h) (g : h.Ns mainGlobals mg) (c : (Fx.val x d).ok K = true) : Tab P w K mg base lvl { G with cst := d :: G.cst } { nm with cst := x :: nm.cst } := by
  unfold Fx.ok at c
  cases e : PySem.W.nsIn K mainGlobals x with
  | none => simp only [e] at c; cases c
  | some o =>
    cases o with
    | none => simp only [e] at c; cases c
    | some u =>
      simp only [e] at c
      obtain ⟨v, r1, r2⟩ := repB_ok c
      exact T.cstc (PySem.W.mg_of X g e) r1 fun an Pp H M => r2 mg an Pp H M
theorem xi_one {x : Str} (X : K.In h) (g : h.Ns mainGlobals mg) (c0 : (He.Fa.glo x).ok K = true) (c : (Fx.xc x).ok K = true) : ∃ C, mg x = some (.ref C) ∧ ExcC K C := by
  unfold Fx.ok at c
  obtain ⟨c1, c⟩ := He.ba c
  obtain ⟨c2, c⟩ := He.ba c
  obtain ⟨c3, c⟩ := He.ba c
  obtain ⟨c4, c⟩ := He.ba c
  obtain ⟨c5, c⟩ := He.ba c
  obtain ⟨c6, c⟩ := He.ba c
  obtain ⟨c7, c8⟩ := He.ba c
  exact ⟨_, He.glo_ok X g c0, of_decide_eq_true c1, of_decide_eq_true c2, of_decide_eq_true c3, of_decide_eq_true c4, of_decide_eq_true c5, of_decide_eq_true c6, of_decide_eq_true c7, of_decide_eq_true c8⟩
/-- one clause's class, over a table of exceptions -/
theorem sub_one {k : Str} {sub : List (Str × List Str)} (X : K.In h) (g : h.Ns mainGlobals mg) (c0 : (He.Fa.glo k).ok K = true) (c1 : ∀ p ∈ sub, (He.Fa.glo p.1).ok K = true) (c2 : ∀ p ∈ sub, (Fx.kit p.1 k (decide (k ∈ p.2))).ok K = true) :
    ∃ cv, ClsM mg k cv ∧ ∀ x ks, sub.lookup x = some ks → ∀ C, mg x = some (.ref C) → PySem.W.exmOne K (.ref C) cv = some (decide (k ∈ ks)) ∧ PySem.W.kitOne K (.ref C) cv = some (decide (k ∈ ks)) := by
  refine ⟨.ref (He.ga K k), .inl ⟨_, rfl, He.glo_ok X g c0⟩, fun x ks e C hC => ?_⟩
  have hm : (x, ks) ∈ sub := by
    clear c1 c2
    induction sub with
    | nil => cases e
    | cons p r ih =>
      rw [List.lookup_cons] at e
      by_cases hx : (x == p.1) = true
      · rw [hx] at e
        have e1 : some p.2 = some ks := e
        have e2 := Option.some.inj e1
        have hx := eq_of_beq hx
        rw [hx, ← e2]; exact List.mem_cons_self ..
      · rw [show (x == p.1) = false from Bool.eq_false_iff.mpr hx] at e
        exact List.mem_cons_of_mem _ (ih e)
  have h1 := He.glo_ok X g (c1 _ hm)
  rw [h1] at hC
  cases hC
  obtain ⟨h2, h3⟩ := He.ba (c2 _ hm)
  exact ⟨of_decide_eq_true h2, of_decide_eq_true h3⟩
/-- .. a class of the language's own -/
theorem sub_oneT {k : Str} {T : String} {sub : List (Str × List Str)} (X : K.In h) (g : h.Ns mainGlobals mg) (c0 : (He.Fa.free k).ok K = true) (hb : bootBuiltins k = some (.type T)) (hk : k ≠ "__name__") (c1 : ∀ p ∈ sub, (He.Fa.glo p.1).ok K = true) (c2 : ∀ p ∈ sub, (Fx.kitT p.1 T (decide (k ∈ p.2))).ok K = true) :
    ∃ cv, ClsM mg k cv ∧ ∀ x ks, sub.lookup x = some ks → ∀ C, mg x = some (.ref C) → PySem.W.exmOne K (.ref C) cv = some (decide (k ∈ ks)) ∧ PySem.W.kitOne K (.ref C) cv = some (decide (k ∈ ks)) := by
  refine ⟨.type T, .inr ⟨T, rfl, He.free_ok X g c0, hb, hk⟩, fun x ks e C hC => ?_⟩
  have hm : (x, ks) ∈ sub := by
    clear c1 c2
    induction sub with
    | nil => cases e
    | cons p r ih =>
      rw [List.lookup_cons] at e
      by_cases hx : (x == p.1) = true
      · rw [hx] at e
        have e1 : some p.2 = some ks := e
        have e2 := Option.some.inj e1
        have hx := eq_of_beq hx
        rw [hx, ← e2]; exact List.mem_cons_self ..
      · rw [show (x == p.1) = false from Bool.eq_false_iff.mpr hx] at e
        exact List.mem_cons_of_mem _ (ih e)
  have h1 := He.glo_ok X g (c1 _ hm)
  rw [h1] at hC
  cases hC
  obtain ⟨h2, h3⟩ := He.ba (c2 _ hm)
  exact ⟨of_decide_eq_true h2, of_decide_eq_true h3⟩
end
/-- what the end leans on, with facts of our own -/
def obsZ (n : Nat) (fa : List He.Fa) (fx : List Fx) (fn : List He.DefD) (g : Addr → Option Obj) : Bool × He.AlD := (fx.all fun f => f.ok (He.frG g (He.asD g n)), He.obsDG n fa fn g)
def hookZ (n : Nat) (fa : List He.Fa) (fx : List Fx) (fn : List He.DefD) : PySem.W.Hook where
  α := Bool × He.AlD
  obs := fun s => obsZ n fa fx fn s.heap.get?
  val := fun _ => (true, He.valD fn)
  says := fun _ h => ∃ K : PySem.W.Frag, K.In h ∧ He.SaysD fa fn K ∧ (fx.all fun f => f.ok K) = true
  of := fun _ _ e => ⟨_, He.frG_in, congrArg Prod.snd e, congrArg Prod.fst e⟩
  keeps := fun _ _ _ ⟨K, hK, c⟩ k => ⟨K, PySem.W.Frag.In.keeps hK k, c⟩
theorem obsZ_eq {n : Nat} {fa : List He.Fa} {fx : List Fx} {fn : List He.DefD} {g : Addr → Option Obj} {s : Shared} (h : ∀ a, g a = s.heap.get? a) : obsZ n fa fx fn g = (hookZ n fa fx fn).obs s := by
  have e : g = s.heap.get? := funext h
  rw [e]; rfl
theorem fx_at {K : PySem.W.Frag} {fx : List Fx} (c : (fx.all fun f => f.ok K) = true) (i : Nat) {f : Fx} (h : fx[i]? = some f) : f.ok K = true := List.all_eq_true.mp c f (List.mem_of_getElem? h)
theorem law_endZ {l : PySem.W.OpenLaw} {n : Nat} {q : Program} {loose : List Str} {XP : (Str → Option Value) → Heap → Prop} {fa : List He.Fa} {fx : List Fx} {fn : List He.DefD} {hn : Nat} {d : DefRec} {x : Str} {st : Stmt} {k : Nat}
    (h1 : l.most = some n) (h2 : n ≤ sizeLine) (hdf : d.params.defaults = []) (hr : Room k callerA) (hd : d.name = ("law" : Str)) (hb : BindOk "law" "law" st [x])
    (F : ∀ (w : World) (K : PySem.W.Frag) (h : Heap) (mg : Str → Option Value), K.In h → h.Ns mainGlobals mg → He.SaysD fa fn K → (fx.all fun f => f.ok K) = true → mg ("law" : Str) = some (.ref (He.ga K "law")) ∧ ∃ fd, Fun K "law" "law" st (He.ga K "law") fd ∧ ∀ base : Heap, FnOk l.prog w K mg base (L2.CX l.prog w) k (He.ga K "law") fd [x] (liftSp K mg 1 (spLaw n))) :
    PySem.W.WalkO q loose XP (hookZ hn fa fx fn).says l.row.toRowW d [] (fun f vs => PySem.call f vs) := by
  refine walk_w (x := x) (CX := fun w => L2.CX l.prog w) h1 h2 hdf hr (fun w mg fa' h Y G hmg => ?_) (fun w H s e s' z => ?_)
  · obtain ⟨K, KX, c, cx⟩ := Y
    rw [hd] at hmg
    obtain ⟨e0, fd, F1, F2⟩ := F w K h mg KX G c cx
    have e := hmg.symm.trans e0
    cases e
    refine ⟨K, fd, _, KX, fun s v => ?_, fun H a ns hl _ hS => law_sp hl hS, fun base _ _ => F2 base⟩
    obtain ⟨oc, od, kV, doc, pm, an, cdv, ct, osl, rfl, lk, hcd⟩ := F1.ex
    exact .of_eq (hb kV doc pm an cdv ct [v] rfl)
  · obtain ⟨a, B, H', cls, d, _, _, _, _, _, _, _, hE⟩ := z
    exact hE
end DS
namespace DS
open PySem PySem.Spec PyProof.Rows L2
theorem Rs.only_only {α : Type} : ∀ {t : Rs α}, t.only.only = t.only
  | .ok _ => rfl
  | .ex _ => rfl
  | .no => rfl
  | .dr l k => congrArg (Rs.dr l) (funext fun v => Rs.only_only)
section
variable {G : Gam} {F : Fr} {xs sh : List Sl} {β γ σ : Type} {ss : SL} {lf : γ → Lf}
theorem Sv.onlyI {t : Rs γ} (h : Sv G F xs ss sh t lf) : Sv G F xs ss sh t.only lf := fun W R ρ M r k => h W R ρ M r (Rs.only_wp k)
theorem Sv.no : Sv G F xs ss sh (.no : Rs γ) lf := fun _ _ _ _ _ k => k.elim
theorem hlfC {post : σ → List Sl} {lr : β → Lf} {i : Nat} (hp : ∀ v R R', (lr v).sat F R → R.rt = R'.rt → (lr v).sat F R') (hj : ∀ s, (post s).set i .junk = post s) :
    ∀ c R, (lfC post lr c).sat F R → (lfC post lr c).sat F { nx := fun ρ' M' => R.nx (ρ'.set i none) M', rt := R.rt, bk := fun ρ' M' => R.bk (ρ'.set i none) M', ct := fun ρ' M' => R.ct (ρ'.set i none) M' } := by
  intro c R h
  cases c with
  | nx s => exact fun ρ M r => h _ M (hj s ▸ r.setJ)
  | bk s => exact fun ρ M r => h _ M (hj s ▸ r.setJ)
  | rt v => exact hp v R _ h rfl
end
end DS

/-! MR15: sorted -/
namespace DS
open PySem PySem.Spec PyProof.Rows L2
/-- types whose values are in order -/
class Srt (α : Type) [Tc α] [Py α] where
  al : ∀ a b : α, PySem.W.alike (Py.py a) (Py.py b) = true
  ok : List α → Bool
  so : ∀ l, ok l = true → PySem.W.Sortable (l.map Py.py)
theorem so_oth {α : Type} [Tc α] [Py α] (h : ∀ a : α, Py.py a ≠ .none ∧ ∀ xs, Py.py a ≠ .tuple xs) (l : List α) : PySem.W.Sortable (l.map Py.py) := PySem.W.Sortable.others h
instance : Srt Int := ⟨fun _ _ => by show PySem.W.alike (.int _) (.int _) = true; unfold PySem.W.alike; rfl, fun _ => true, fun l _ => so_oth (fun a => ⟨(fun e : PyData.int a = .none => by cases e), fun xs (e : PyData.int a = .tuple xs) => by cases e⟩) l⟩
instance : Srt String := ⟨fun _ _ => by show PySem.W.alike (.str _) (.str _) = true; unfold PySem.W.alike; rfl, fun _ => true, fun l _ => so_oth (fun a => ⟨(fun e : PyData.str (sd a) = .none => by cases e), fun xs (e : PyData.str (sd a) = .tuple xs) => by cases e⟩) l⟩
instance : Srt Bool := ⟨fun _ _ => by show PySem.W.alike (.bool _) (.bool _) = true; unfold PySem.W.alike; rfl, fun _ => true, fun l _ => so_oth (fun a => ⟨(fun e : PyData.bool a = .none => by cases e), fun xs (e : PyData.bool a = .tuple xs) => by cases e⟩) l⟩
section
variable {α : Type} [Tc α] [Py α] [Srt α]
theorem al_map : ∀ l m : List α, PySem.W.alikeAll (l.map Py.py) (m.map Py.py) = true
  | [], _ => by rw [List.map_nil, PySem.W.alikeAll]
  | _ :: _, [] => by rw [List.map_nil, List.map_cons, PySem.W.alikeAll]
  | x :: l, y :: m => by rw [List.map_cons, List.map_cons, PySem.W.alikeAll, Srt.al, al_map l m]; rfl
instance : Srt (List α) := ⟨fun l m => by show PySem.W.alike (.tuple _) (.tuple _) = true; rw [PySem.W.alike]; exact al_map l m, fun l => l.all fun x => !x.isEmpty, fun l h => .inl fun d hd => by
  obtain ⟨x, hx, rfl⟩ := List.mem_map.mp hd
  have := List.all_eq_true.mp h x hx
  cases x with
  | nil => cases this
  | cons a r => exact ⟨_, _, rfl⟩⟩
instance : Srt (Li α) := ⟨fun l m => by show PySem.W.alike (.list _) (.list _) = true; rw [PySem.W.alike]; exact al_map l.l m.l, fun _ => true, fun l _ => so_oth (fun a => ⟨(fun e : PyData.list _ = .none => by cases e), fun xs (e : PyData.list _ = .tuple xs) => by cases e⟩) l⟩
end
instance {A B : Type} [Tc A] [Py A] [Srt A] [Tc B] [Py B] [Srt B] : Srt (T2 A B) := ⟨fun s t => by show PySem.W.alike (.tuple [_, _]) (.tuple [_, _]) = true; simp only [PySem.W.alike, PySem.W.alikeAll, Srt.al, Bool.and_true], fun _ => true, fun l _ => PySem.W.Sortable.tuples fun b => ⟨_, _, rfl⟩⟩
instance {A B C : Type} [Tc A] [Py A] [Srt A] [Tc B] [Py B] [Srt B] [Tc C] [Py C] [Srt C] : Srt (T3 A B C) := ⟨fun s t => by show PySem.W.alike (.tuple [_, _, _]) (.tuple [_, _, _]) = true; simp only [PySem.W.alike, PySem.W.alikeAll, Srt.al, Bool.and_true], fun _ => true, fun l _ => PySem.W.Sortable.tuples fun b => ⟨_, _, rfl⟩⟩
instance {A B C D : Type} [Tc A] [Py A] [Srt A] [Tc B] [Py B] [Srt B] [Tc C] [Py C] [Srt C] [Tc D] [Py D] [Srt D] : Srt (T4 A B C D) := ⟨fun s t => by show PySem.W.alike (.tuple [_, _, _, _]) (.tuple [_, _, _, _]) = true; simp only [PySem.W.alike, PySem.W.alikeAll, Srt.al, Bool.and_true], fun _ => true, fun l _ => PySem.W.Sortable.tuples fun b => ⟨_, _, rfl⟩⟩
section
variable {G : Gam} {F : Fr} {sh : List Sl} {e : E} {α : Type}
/-- the order that sorted keeps -/
def leD [Tc α] [Py α] : α → α → Bool := PySem.W.dataLe false Py.py
def sortL [Tc α] [Py α] (l : List α) : List α := l.mergeSort leD
def sortR [Tc α] [Py α] [Srt α] (l : List α) : Rs (Li α) := gd (Srt.ok l = true) ⟨sortL l⟩
theorem pyD_d [Tc α] [Py α] (a : α) : pyD (Tc.d a) = Py.py a := by unfold pyD; rw [Py.f]; rfl
theorem sort_d [Tc α] [Py α] (l : List α) : (l.map Tc.d).mergeSort (PySem.W.dataLe false pyD) = (sortL l).map Tc.d := by
  unfold sortL
  refine (PySem.W.sort_maps Tc.d fun a _ b _ => ?_).symm
  unfold leD
  rw [PySem.W.dataLe_eq, PySem.W.dataLe_eq]
  dsimp only
  rw [pyD_d, pyD_d]
theorem sorted_op [Tc α] [Py α] [Srt α] {m : Bool} (hd : Py.dep α ≤ 60) {l : List α} {x : D} {M : Mp} {Q : QE} (p : lsOf M x = some (l.map Tc.d)) (ho : Srt.ok l = true) (q : newL m ((sortL l).map Tc.d) M Q) : bltD m .sorted [x] M Q := by
  have key : (match lsOf M x with
    | some ds => (match pyFs ds with
      | some es => PySem.W.AllAlike es ∧ PySem.W.Sortable es ∧ (∀ e ∈ es, e.depth ≤ 60) ∧ newL m (ds.mergeSort (PySem.W.dataLe false pyD)) M Q
      | none => False)
    | none => False) := by
    rw [p]
    simp only [pys_map]
    refine ⟨PySem.W.AllAlike.of Srt.al, Srt.so l ho, fun e he => ?_, by rw [sort_d]; exact q⟩
    obtain ⟨a, _, rfl⟩ := List.mem_map.mp he
    exact Nat.le_trans (Py.dep_le a) hd
  exact key
theorem Ev.sorted [Tc α] [Py α] [Srt α] (hd : Py.dep α ≤ 60) {t : Rs (List α)} (h : Ev G F sh e (Pl (α := α)) t) : Ev G F sh (.blt false .sorted (.cons e .nil)) (Pv (α := Li α)) (t.bind sortR) := by
  refine ev_l1 (op := fun ds M Q => bltD false .sorted ds M Q) sortR (fun _ _ _ _ => rfl) ?_ h
  intro l x dr M Q X p w
  obtain ⟨ho, w⟩ := gd_wp w
  exact sorted_op hd p ho (w _ fun _ => rfl)
theorem EvM.sorted [Tc α] [Py α] [Srt α] (hd : Py.dep α ≤ 60) {t : Rs (List α)} (h : Ev G F sh e (Pl (α := α)) t) : EvM G F sh (.blt true .sorted (.cons e .nil)) (ml (α := α)) (t.bind fun l => (sortR l).map Li.l) := by
  intro W ρ M Q r w
  show wpE G W e ρ M fun x M1 => bltD true .sorted [x] M1 Q
  refine h W ρ M _ r (Rs.wp_mono (fun l q x M' r' p => ?_) (fun _ q => q) (Rs.wp_bind.mp w))
  obtain ⟨ho, q⟩ := gd_wp (Rs.wp_bind.mp q)
  exact sorted_op hd (p M' r') ho fun a ha => q a M' r' ha
/-- a value that is known to be there -/
theorem Ev.unopt [Tc α] {t : Rs (Option α)} (h : Ev G F sh e (Pv (α := Option α)) t) : Ev G F sh e (Pv (α := α)) (t.bind Rs.of) := by
  intro W ρ M Q r w
  refine h W ρ M Q r (Rs.wp_mono (fun v q x M' r' p => ?_) (fun _ q => q) (Rs.wp_bind.mp w))
  cases v with
  | none => exact (q : False).elim
  | some a => exact q x M' r' p
end
end DS

/-! MR16: more -/
namespace DS
open PySem PySem.Spec PyProof.Rows L2
def dnL {α : Type} (f : D → Option α) : List D → Option (List α)
  | [] => some []
  | d :: ds => match f d, dnL f ds with
    | some x, some xs => some (x :: xs)
    | _, _ => none
theorem dnL_ok {α : Type} [Tc α] {f : D → Option α} (h : ∀ d a, f d = some a → d = Tc.d a) : ∀ {ds : List D} {as : List α}, dnL f ds = some as → ds = as.map Tc.d
  | [], as, e => by unfold dnL at e; cases e; rfl
  | d :: ds, as, e => by
    unfold dnL at e
    cases e1 : f d with
    | none => rw [e1] at e; cases e
    | some x =>
      cases e2 : dnL f ds with
      | none => rw [e1, e2] at e; cases e
      | some xs =>
        rw [e1, e2] at e
        cases e
        rw [List.map_cons, ← h _ _ e1, ← dnL_ok h e2]
instance (priority := low) {α : Type} [Tc α] [Dn α] : Dn (List α) := ⟨fun d => match d with | .tup ds => dnL Dn.dn ds | _ => none, fun d a h => by
  cases d with
  | tup ds => have := dnL_ok Dn.ok h; rw [this]; rfl
  | _ => cases h⟩
instance (priority := low) {α : Type} [Tc α] [Dn α] : Dn (Li α) := ⟨fun d => match d with | .lst ds => (dnL Dn.dn ds).map Li.mk | _ => none, fun d a h => by
  cases d with
  | lst ds =>
    obtain ⟨x, h1, rfl⟩ := Option.map_eq_some_iff.mp h
    have := dnL_ok Dn.ok h1; rw [this]; rfl
  | _ => cases h⟩
theorem dnL_map {α : Type} [Tc α] {f : D → Option α} (h : ∀ a : α, f (Tc.d a) = some a) : ∀ l : List α, dnL f (l.map Tc.d) = some l
  | [] => rfl
  | x :: l => by rw [List.map_cons, dnL, h, dnL_map h l]
section
variable {G : Gam} {F : Fr} {xs sh : List Sl} {α β γ : Type} {e e1 e2 e3 : E} {ss : SL} {lf : γ → Lf} {ti tj tk : Rs Int}
/-- l[k] op= e, ints -/
theorem Sv.augl {i : Nat} {loc : Bool} {op : Operator} {l : List Int} {t2 : List Int → Rs γ} (f : Int → Int → Rs Int) (hop : ∀ i j M Q X, (f i j).wp (fun v => Q (D.int v) M) X → augD op (.int i) (.int j) M Q)
    (hm : nth sh i = some (.mu loc (ml l))) (wx : Wk sh xs) (hk : Ev G F sh e1 (Pv (α := Int)) tk) (h1 : Ev G F sh e (Pv (α := Int)) tj) (h2 : ∀ l', Sv G F xs ss (sh.set i (.mu loc (ml l'))) (t2 l') lf) :
    Sv G F xs (.cons (.augs (.var i) e1 op e) ss) sh (tk.bind fun k => (ixR l k).bind fun x => tj.bind fun y => (f x y).bind fun z => (setR l k z).bind t2) lf := by
  intro W R ρ M r k
  rw [wpSs_cons]; unfold wpS
  obtain ⟨a, h3, h4, _⟩ := r.sl i _ hm
  unfold wpE
  rw [h3]
  refine hk W ρ M _ r (Rs.wp_mono (fun n q y M2 r2 p2 => ?_) (fun x q M' r' => q ρ M' (r'.wk wx)) (Rs.wp_bind.mp k))
  cases p2 M2 r2
  refine ⟨rfl, ?_⟩
  obtain ⟨a', h3', h4', _⟩ := r2.sl i _ hm
  rw [h3] at h3'; cases h3'
  have q := Rs.wp_bind.mp q
  unfold ixR at q
  cases e : L2.atI l n with
  | none => rw [e] at q; exact q.elim
  | some x =>
    rw [e] at q
    have q : (tj.bind fun y => (f x y).bind fun z => (setR l n z).bind t2).wp _ _ := q
    have key : ixD (.ref a) (.int n) M2 = fun Q => (match sqOf M2 (.ref a) with
      | some ds => (match L2.atI ds n with | some d => Q d M2 | none => False)
      | none => (match dcOf M2 (.ref a), keyD (.int n) with
        | some kvs, some k => (match valD kvs k with | some v => Q v M2 | none => False)
        | _, _ => False)) := rfl
    have hs : sqOf M2 (.ref a) = some (l.map D.int) := by
      show (match M2 a with | some (.lst ds) => some ds | _ => none) = _
      rw [h4']; rfl
    show ixD (.ref a) (.int n) M2 _
    rw [key, hs]
    have hx : L2.atI (l.map D.int) n = some (.int x) := by rw [atI_map, e]; rfl
    simp only [hx]
    refine h1 W ρ M2 _ r2 (Rs.wp_mono (fun y q v M4 r4 p4 => ?_) (fun x q M' r' => q ρ M' (r'.wk wx)) (Rs.wp_bind.mp q))
    cases p4 M4 r4
    refine hop x y M4 _ _ (Rs.wp_mono (fun z q => ?_) (fun _ q => q) (Rs.wp_bind.mp q))
    obtain ⟨a', h3', h4', _⟩ := r4.sl i _ hm
    rw [h3] at h3'; cases h3'
    show (match M4 a with
      | some (.lst ds) => (match L2.ixN ds.length n with | some j => wpSs' ss G W R ρ (mset M4 a (.lst (ds.set j (.int z)))) | none => False)
      | some (.dic kvs) => (match keyD (.int n) with | some k => kvs.length < sizeLine ∧ wpSs' ss G W R ρ (mset M4 a (.dic (putKD kvs k (.int z)))) | none => False)
      | _ => False)
    rw [h4']
    show (match L2.ixN (l.map D.int).length n with | some j => wpSs' ss G W R ρ (mset M4 a (.lst ((l.map D.int).set j (.int z)))) | none => False)
    rw [List.length_map]
    unfold setR at q
    cases e2 : L2.ixN l.length n with
    | none => rw [e2] at q; exact q.elim
    | some j =>
      rw [e2] at q
      have := h2 (l.set j z) W R ρ (mset M4 a (ml (l.set j z))) (r4.wr hm h3) q
      unfold ml at this
      rwa [List.map_set] at this
/-! range(a, b, c) -/
instance (i j c : Int) : Decidable (rgOk i j c) := inferInstanceAs (Decidable (_ ∧ _ ∧ _))
def irange3 (a b c : Int) : List Int := (List.range (Builtin.Range.rangeSize a b c).toNat).map fun i : Nat => a + (i : Int) * c
def rangeR3 (a b c : Int) : Rs (List Int) := gd (rgOk a b c ∧ Builtin.Range.rangeSize a b c ≤ 16777216) (irange3 a b c)
theorem irange3_d (a b c : Int) : (irange3 a b c).map (Tc.d (α := Int)) = rgD a c (Builtin.Range.rangeSize a b c).toNat := by
  unfold irange3 rgD; rw [List.map_map]; rfl
theorem It.rng3 (h1 : Ev G F sh e1 (Pv (α := Int)) ti) (h2 : Ev G F sh e2 (Pv (α := Int)) tj) (h3 : Ev G F sh e3 (Pv (α := Int)) tk) : It G F sh (.rng3 e1 e2 e3) (ti.bind fun a => tj.bind fun b => tk.bind fun c => rangeR3 a b c) := by
  intro W ρ M Q r w
  unfold wpI
  refine h1 W ρ M _ r (Rs.wp_mono (fun n q x M1 r1 p => ?_) (fun _ q => q) (Rs.wp_bind.mp w))
  refine h2 W ρ M1 _ r1 (Rs.wp_mono (fun m q y M2 r2 p2 => ?_) (fun _ q => q) (Rs.wp_bind.mp q))
  refine h3 W ρ M2 _ r2 (Rs.wp_mono (fun c q z M3 r3 p3 => ?_) (fun _ q => q) (Rs.wp_bind.mp q))
  cases p M1 r1; cases p2 M2 r2; cases p3 M3 r3
  obtain ⟨h1, q⟩ := gd_wp q
  have q := q (fun _ => True) M3 r3 fun _ => trivial
  rw [irange3_d] at q
  exact ⟨h1.1, h1.2, q⟩
/-- items of any kind -/
theorem Ev.tupD [Tc α] {t : Rs (List α)} (h : Ev G F sh e (Pv (α := List α)) t) : Ev G F sh e (Pv (α := List D)) (t.bind fun l => .ok (l.map Tc.d)) := by
  intro W ρ M Q r w
  refine h W ρ M Q r (Rs.wp_mono (fun v q x M' r' p => ?_) (fun _ q => q) (Rs.wp_bind.mp w))
  refine q x M' r' fun M'' r'' => (p M'' r'').trans ?_
  show D.tup _ = D.tup _
  rw [List.map_map]; rfl
theorem Ev.liD [Tc α] {t : Rs (Li α)} (h : Ev G F sh e (Pv (α := Li α)) t) : Ev G F sh e (Pv (α := Li D)) (t.bind fun l => .ok ⟨l.l.map Tc.d⟩) := by
  intro W ρ M Q r w
  refine h W ρ M Q r (Rs.wp_mono (fun v q x M' r' p => ?_) (fun _ q => q) (Rs.wp_bind.mp w))
  refine q x M' r' fun M'' r'' => (p M'' r'').trans ?_
  show D.lst _ = D.lst _
  rw [List.map_map]; rfl
/-- l.extend(e), e a written list -/
def extR (l : List α) (v : Li α) : Rs (List α) := gd (l.length + v.l.length ≤ 16777216) (l ++ v.l)
theorem Sv.extF [Tc α] {i : Nat} {loc : Bool} {l : List α} {t1 : Rs (Li α)} {t2 : List α → Rs γ} (hm : nth sh i = some (.mu loc (ml l))) (wx : Wk sh xs) (h1 : Ev G F sh e (Pv (α := Li α)) t1) (h2 : ∀ l', Sv G F xs ss (sh.set i (.mu loc (ml l'))) (t2 l') lf) :
    Sv G F xs (.cons (.ex (.bm .extend (.var i) (.cons e .nil))) ss) sh (t1.bind fun v => (extR l v).bind t2) lf := by
  intro W R ρ M r k
  rw [wpSs_cons]; unfold wpS
  obtain ⟨a, h3, h4, _⟩ := r.sl i _ hm
  have hw : ∀ K, wpE G W (.bm .extend (.var i) (.cons e .nil)) ρ M K = (match slot ρ i with | some d => bmTy .extend M d ∧ wpE G W e ρ M (fun d1 M1 => bmD .extend d [d1] M1 K) | none => False) := fun _ => rfl
  rw [hw, h3]
  refine ⟨?_, h1 W ρ M _ r (Rs.wp_mono (fun v q x M' r' p => ?_) (fun x q M' r' => q ρ M' (r'.wk wx)) (Rs.wp_bind.mp k))⟩
  · show (lsOf M (.ref a)).isSome = true
    show (match M a with | some (.lst ds) => some ds | _ => none).isSome = true
    rw [h4]; rfl
  · cases p M' r'
    obtain ⟨hz, q⟩ := gd_wp (Rs.wp_bind.mp q)
    obtain ⟨a', h3', h4', _⟩ := r'.sl i _ hm
    rw [h3] at h3'; cases h3'
    show (match M' a with | some (.lst ds) => ds.length + (v.l.map Tc.d).length ≤ sizeLine ∧ wpSs' ss G W R ρ (mset M' a (.lst (ds ++ v.l.map Tc.d))) | _ => False)
    rw [h4']
    refine ⟨by rw [List.length_map, List.length_map]; exact hz, ?_⟩
    have := h2 (l ++ v.l) W R ρ (mset M' a (ml (l ++ v.l))) (r'.wr hm h3) q
    unfold ml at this
    rwa [List.map_append] at this
end
end DS

/-! MR17: list comprehensions that let exceptions out -/
namespace DS
open PySem PySem.Spec PyProof.Rows L2
namespace Rs
variable {α β : Type}
def compX (c : α → Rs Bool) (f : α → Rs β) : List α → Rs (List β)
  | [] => .ok []
  | x :: xs => (c x).bind fun b => if b then (f x).bind fun y => (compX c f xs).bind fun ys => .ok (y :: ys) else compX c f xs
def mapX (f : α → Rs β) : List α → Rs (List β)
  | [] => .ok []
  | x :: xs => (f x).bind fun y => (mapX f xs).bind fun ys => .ok (y :: ys)
theorem compX_map (f : α → Rs β) : ∀ xs : List α, compX (fun _ => .ok true) f xs = mapX f xs
  | [] => rfl
  | x :: xs => by unfold compX mapX; rw [compX_map f xs]; rfl
theorem compX_ok (c : α → Bool) (f : α → β) : ∀ xs : List α, compX (fun x => .ok (c x)) (fun x => .ok (f x)) xs = .ok ((xs.filter c).map f)
  | [] => rfl
  | x :: xs => by
    unfold compX
    rw [compX_ok c f xs]
    show (if c x = true then _ else _) = _
    cases h : c x with
    | true => rw [List.filter_cons_of_pos h]; rfl
    | false => rw [List.filter_cons_of_neg (by rw [h]; exact Bool.false_ne_true)]; rfl
theorem mapX_eq {f : α → Rs β} {g : α → β} : ∀ {xs : List α}, (∀ x ∈ xs, f x = .ok (g x)) → mapX f xs = .ok (xs.map g)
  | [], _ => rfl
  | x :: xs, h => by unfold mapX; rw [h x (List.mem_cons_self ..), mapX_eq fun y hy => h y (List.mem_cons_of_mem _ hy)]; rfl
theorem compX_eq {c : α → Rs Bool} {f : α → Rs β} {p : α → Bool} {g : α → β} : ∀ {xs : List α}, (∀ x ∈ xs, c x = .ok (p x)) → (∀ x ∈ xs, p x = true → f x = .ok (g x)) → compX c f xs = .ok ((xs.filter p).map g)
  | [], _, _ => rfl
  | x :: xs, h, k => by
    unfold compX
    rw [h x (List.mem_cons_self ..), compX_eq (fun y hy => h y (List.mem_cons_of_mem _ hy)) fun y hy => k y (List.mem_cons_of_mem _ hy)]
    show (if p x = true then _ else _) = _
    cases e : p x with
    | true => rw [List.filter_cons_of_pos e, k x (List.mem_cons_self ..) e]; rfl
    | false => rw [List.filter_cons_of_neg (by rw [e]; exact Bool.false_ne_true)]; rfl
/-- the first that raises -/
theorem mapX_ex {f : α → Rs β} {g : α → β} {a : α} {x : XD} : ∀ {xs ys : List α}, (∀ z ∈ xs, f z = .ok (g z)) → f a = .ex x → mapX f (xs ++ a :: ys) = .ex x
  | [], ys, _, e => by show (f a).bind _ = _; rw [e]; rfl
  | z :: xs, ys, h, e => by
    show (f z).bind _ = _
    rw [h z (List.mem_cons_self ..)]
    show (mapX f (xs ++ a :: ys)).bind _ = _
    rw [mapX_ex (fun w hw => h w (List.mem_cons_of_mem _ hw)) e]; rfl
end Rs
section
variable {G : Gam} {F : Fr} {sh : List Sl} {α β : Type}
theorem lx_core' [Tc α] [Tc β] {own : List (Str × Nat)} {elt : E} {tg : TG1} {c : EO} {sB : α → List Sl} {tc : α → Rs Bool} {te : α → Rs β}
    (hn : ∀ i ∈ tgN tg, i ∈ own.map (·.2)) (hb : ∀ x : α, Bd G F tg (Tc.d x) (wsh sh (own.map (·.2))) (sB x)) (hm : ∀ x, SM (own.map (·.2)) 0 sh (sB x)) (hc : ∀ x, EvC G F (sB x) c (tc x)) (he : ∀ x, Ev G F (sB x) elt (Pv (α := β)) (te x))
    {W : XW} {ρ : Env1} {g : Mp → Prop} {Q : List D → Mp → Prop} (hg : ∀ M'', Rel F sh ρ M'' → g M'') :
    ∀ (xs : List α) (acc : List D) (M : Mp), Rel F sh ρ M → (Rs.compX tc te xs).wp (fun ys => ∀ M', Rel F sh ρ M' → Q (acc ++ ys.map Tc.d) M') (fun x => ∀ M', Rel F sh ρ M' → W x ρ M') →
      foldC (bindT G (fun x _ M' => W x ρ M') tg) (wpC G (fun x _ M' => W x ρ M') c) (wpE G (fun x _ M' => W x ρ M') elt) (wipeD ρ (own.map (·.2))) g (xs.map Tc.d) acc M Q
  | [], acc, M, r, w => ⟨hg M r, by have := w M r; rwa [List.map_nil, List.append_nil] at this⟩
  | x :: xs, acc, M, r, w => by
    refine ⟨hg M r, hb x _ _ M _ (r.wipe _) fun ρ1 r1 k1 => ?_⟩
    have hs : ∀ i, i ∉ own.map (·.2) → slot ρ1 i = slot ρ i := fun i hi => (k1 i fun z => hi (hn i z)).trans (slot_wipe hi)
    unfold Rs.compX at w
    refine hc x _ ρ1 M _ r1 (Rs.wp_mono (fun b q M2 r2 => ?_) (fun x' q M2 r2 => q M2 (r.back r2 (hm x) hs)) (Rs.wp_bind.mp w))
    cases b with
    | true =>
      refine he x _ ρ1 M2 _ r2 (Rs.wp_mono (fun y q z M3 r3 p3 => ?_) (fun x' q M3 r3 => q M3 (r.back r3 (hm x) hs)) (Rs.wp_bind.mp q))
      cases p3 M3 r3
      refine lx_core' hn hb hm hc he hg xs _ M3 (r.back r3 (hm x) hs) (Rs.wp_mono (fun ys q M' r' => ?_) (fun _ q => q) (Rs.wp_bind.mp q))
      have := q M' r'
      rwa [List.map_cons, ← List.singleton_append, ← List.append_assoc] at this
    | false => exact lx_core' hn hb hm hc he hg xs acc M2 (r.back r2 (hm x) hs) q
theorem Ev.lx [Tc α] [Tc β] {own : List (Str × Nat)} {elt : E} {tg : TG1} {it : IT} {c : EO} {sB : α → List Sl} {tc : α → Rs Bool} {te : α → Rs β} {tl : Rs (List α)} (hi : ItC G F sh it tl)
    (hn : ∀ i ∈ tgN tg, i ∈ own.map (·.2)) (hb : ∀ x : α, Bd G F tg (Tc.d x) (wsh sh (own.map (·.2))) (sB x)) (hm : ∀ x, SM (own.map (·.2)) 0 sh (sB x)) (hc : ∀ x, EvC G F (sB x) c (tc x)) (he : ∀ x, Ev G F (sB x) elt (Pv (α := β)) (te x)) :
    Ev G F sh (.lcx false own elt tg it c) (Pv (α := Li β)) (tl.bind fun xs => (Rs.compX tc te xs).bind fun ys => .ok ⟨ys⟩) := by
  intro W ρ M Q r w
  unfold wpE
  refine hi W ρ M _ r (Rs.wp_mono (fun xs q g M1 r1 hg => ?_) (fun _ q => q) (Rs.wp_bind.mp w))
  refine lx_core' hn hb hm hc he hg xs [] M1 r1 (Rs.wp_mono (fun ys q M' r' => ?_) (fun _ q => q) (Rs.wp_bind.mp q))
  exact q _ M' r' fun _ _ => rfl
theorem EvM.lx [Tc α] [Tc β] {own : List (Str × Nat)} {elt : E} {tg : TG1} {it : IT} {c : EO} {sB : α → List Sl} {tc : α → Rs Bool} {te : α → Rs β} {tl : Rs (List α)} (hi : ItC G F sh it tl)
    (hn : ∀ i ∈ tgN tg, i ∈ own.map (·.2)) (hb : ∀ x : α, Bd G F tg (Tc.d x) (wsh sh (own.map (·.2))) (sB x)) (hm : ∀ x, SM (own.map (·.2)) 0 sh (sB x)) (hc : ∀ x, EvC G F (sB x) c (tc x)) (he : ∀ x, Ev G F (sB x) elt (Pv (α := β)) (te x)) :
    EvM G F sh (.lcx true own elt tg it c) (ml (α := β)) (tl.bind fun xs => Rs.compX tc te xs) := by
  intro W ρ M Q r w
  unfold wpE
  refine hi W ρ M _ r (Rs.wp_mono (fun xs q g M1 r1 hg => ?_) (fun _ q => q) (Rs.wp_bind.mp w))
  refine lx_core' hn hb hm hc he hg xs [] M1 r1 (Rs.wp_mono (fun ys q M' r' => ?_) (fun _ q => q) q)
  exact fun p hp => q p M' r' hp
theorem filter_true' (l : List α) : l.filter (fun _ => true) = l := List.filter_eq_self.mpr fun _ _ => rfl
theorem Ev.lxF [Tc α] [Tc β] {own : List (Str × Nat)} {elt : E} {tg : TG1} {it : IT} {c : EO} {sB : α → List Sl} {tl : Rs (List α)} (p : α → Bool) (f : α → β) (hi : ItC G F sh it tl)
    (hn : ∀ i ∈ tgN tg, i ∈ own.map (·.2)) (hb : ∀ x : α, Bd G F tg (Tc.d x) (wsh sh (own.map (·.2))) (sB x)) (hm : ∀ x, SM (own.map (·.2)) 0 sh (sB x)) (hc : ∀ x, EvC G F (sB x) c (.ok (p x))) (he : ∀ x, Ev G F (sB x) elt (Pv (α := β)) (.ok (f x))) :
    Ev G F sh (.lcx false own elt tg it c) (Pv (α := Li β)) (tl.bind fun xs => .ok ⟨(xs.filter p).map f⟩) := by
  have h := Ev.lx hi hn hb hm hc he
  simp only [Rs.compX_ok] at h
  exact h
theorem Ev.lxP [Tc α] [Tc β] {own : List (Str × Nat)} {elt : E} {tg : TG1} {it : IT} {sB : α → List Sl} {tl : Rs (List α)} (f : α → β) (hi : ItC G F sh it tl)
    (hn : ∀ i ∈ tgN tg, i ∈ own.map (·.2)) (hb : ∀ x : α, Bd G F tg (Tc.d x) (wsh sh (own.map (·.2))) (sB x)) (hm : ∀ x, SM (own.map (·.2)) 0 sh (sB x)) (he : ∀ x, Ev G F (sB x) elt (Pv (α := β)) (.ok (f x))) :
    Ev G F sh (.lcx false own elt tg it .none) (Pv (α := Li β)) (tl.bind fun xs => .ok ⟨xs.map f⟩) := by
  have h := Ev.lxF (fun _ => true) f hi hn hb hm (fun _ => EvC.none) he
  simp only [filter_true'] at h
  exact h
theorem Ev.lxM [Tc α] [Tc β] {own : List (Str × Nat)} {elt : E} {tg : TG1} {it : IT} {sB : α → List Sl} {tl : Rs (List α)} (f : α → Rs β) (hi : ItC G F sh it tl)
    (hn : ∀ i ∈ tgN tg, i ∈ own.map (·.2)) (hb : ∀ x : α, Bd G F tg (Tc.d x) (wsh sh (own.map (·.2))) (sB x)) (hm : ∀ x, SM (own.map (·.2)) 0 sh (sB x)) (he : ∀ x, Ev G F (sB x) elt (Pv (α := β)) (f x)) :
    Ev G F sh (.lcx false own elt tg it .none) (Pv (α := Li β)) (tl.bind fun xs => (Rs.mapX f xs).bind fun ys => .ok ⟨ys⟩) := by
  have h := Ev.lx hi hn hb hm (fun _ => EvC.none) he
  simp only [Rs.compX_map] at h
  exact h
theorem EvM.lxF [Tc α] [Tc β] {own : List (Str × Nat)} {elt : E} {tg : TG1} {it : IT} {c : EO} {sB : α → List Sl} {tl : Rs (List α)} (p : α → Bool) (f : α → β) (hi : ItC G F sh it tl)
    (hn : ∀ i ∈ tgN tg, i ∈ own.map (·.2)) (hb : ∀ x : α, Bd G F tg (Tc.d x) (wsh sh (own.map (·.2))) (sB x)) (hm : ∀ x, SM (own.map (·.2)) 0 sh (sB x)) (hc : ∀ x, EvC G F (sB x) c (.ok (p x))) (he : ∀ x, Ev G F (sB x) elt (Pv (α := β)) (.ok (f x))) :
    EvM G F sh (.lcx true own elt tg it c) (ml (α := β)) (tl.bind fun xs => .ok ((xs.filter p).map f)) := by
  have h := EvM.lx hi hn hb hm hc he
  simp only [Rs.compX_ok] at h
  exact h
theorem EvM.lxP [Tc α] [Tc β] {own : List (Str × Nat)} {elt : E} {tg : TG1} {it : IT} {sB : α → List Sl} {tl : Rs (List α)} (f : α → β) (hi : ItC G F sh it tl)
    (hn : ∀ i ∈ tgN tg, i ∈ own.map (·.2)) (hb : ∀ x : α, Bd G F tg (Tc.d x) (wsh sh (own.map (·.2))) (sB x)) (hm : ∀ x, SM (own.map (·.2)) 0 sh (sB x)) (he : ∀ x, Ev G F (sB x) elt (Pv (α := β)) (.ok (f x))) :
    EvM G F sh (.lcx true own elt tg it .none) (ml (α := β)) (tl.bind fun xs => .ok (xs.map f)) := by
  have h := EvM.lxF (fun _ => true) f hi hn hb hm (fun _ => EvC.none) he
  simp only [filter_true'] at h
  exact h
theorem EvM.lxM [Tc α] [Tc β] {own : List (Str × Nat)} {elt : E} {tg : TG1} {it : IT} {sB : α → List Sl} {tl : Rs (List α)} (f : α → Rs β) (hi : ItC G F sh it tl)
    (hn : ∀ i ∈ tgN tg, i ∈ own.map (·.2)) (hb : ∀ x : α, Bd G F tg (Tc.d x) (wsh sh (own.map (·.2))) (sB x)) (hm : ∀ x, SM (own.map (·.2)) 0 sh (sB x)) (he : ∀ x, Ev G F (sB x) elt (Pv (α := β)) (f x)) :
    EvM G F sh (.lcx true own elt tg it .none) (ml (α := β)) (tl.bind fun xs => Rs.mapX f xs) := by
  have h := EvM.lx hi hn hb hm (fun _ => EvC.none) he
  simp only [Rs.compX_map] at h
  exact h
end
end DS

/-! PM0: plain steps -/
namespace DS
open PySem
inductive All2 {α β : Type} (P : α → β → Prop) : List α → List β → Prop
  | nil : All2 P [] []
  | cons {x y xs ys} : P x y → All2 P xs ys → All2 P (x :: xs) (y :: ys)
namespace Rs
variable {α β γ σ : Type}
theorem okb (a : α) (f : α → Rs β) : (Rs.ok a).bind f = f a := rfl
theorem ite_bind {c : Prop} [Decidable c] {a b : Rs α} {f : α → Rs β} : (if c then a else b).bind f = if c then a.bind f else b.bind f := by split <;> rfl
theorem map_def {t : Rs α} {f : α → β} : t.map f = t.bind fun a => .ok (f a) := rfl
theorem bindE {t : Rs α} {a : α} {f : α → Rs β} (h : t = .ok a) : t.bind f = f a := by rw [h]; rfl
theorem wpE {t : Rs α} {a : α} {f : α → Rs β} {Q : β → Prop} {X : XD → Prop} (h : t = .ok a) (k : (f a).wp Q X) : (t.bind f).wp Q X := by rw [h]; exact k
theorem wpB {t : Rs α} {f : α → Rs β} {Q : β → Prop} {X : XD → Prop} {P : α → Prop} (h : t.wp P X) (k : ∀ a, P a → (f a).wp Q X) : (t.bind f).wp Q X := wp_bind.mpr (wp_mono k (fun _ x => x) h)
theorem wp_ok {a : α} {Q : α → Prop} {X : XD → Prop} : (Rs.ok a).wp Q X ↔ Q a := .rfl
theorem wp_only {Q : α → Prop} {X : XD → Prop} : ∀ {t : Rs α}, t.wp Q (fun _ => False) → t.only.wp Q X
  | .ok _, h => h
  | .ex _, h => h.elim
  | .no, h => h.elim
  | .dr _ _, h => ⟨h.1, h.2.1, fun v a b => wp_only (h.2.2 v a b)⟩
theorem mapR_wp {f : α → Rs β} {P : α → β → Prop} {X : XD → Prop} : ∀ {xs : List α}, (∀ x ∈ xs, (f x).wp (P x) fun _ => False) → (mapR f xs).wp (fun ys => All2 P xs ys) X
  | [], _ => .nil
  | x :: xs, h => by
    unfold mapR
    refine wpB (P := P x) (wp_only (h x (List.mem_cons_self ..))) fun y hy => ?_
    exact wpB (mapR_wp fun z hz => h z (List.mem_cons_of_mem _ hz)) fun ys hys => .cons hy hys
theorem comp_wp {c : α → Rs Bool} {f : α → Rs β} {P : α → β → Prop} {X : XD → Prop} : ∀ {xs : List α}, (∀ x ∈ xs, (c x).wp (fun b => b = true → (f x).wp (P x) fun _ => False) fun _ => False) → (comp c f xs).wp (fun ys => ∃ zs, zs.Sublist xs ∧ All2 P zs ys) X
  | [], _ => ⟨[], .slnil, .nil⟩
  | x :: xs, h => by
    unfold comp
    refine wpB (wp_only (h x (List.mem_cons_self ..))) fun b hb => ?_
    cases b with
    | false => exact wp_mono (fun ys ⟨zs, h1, h2⟩ => ⟨zs, h1.cons _, h2⟩) (fun _ q => q) (comp_wp fun z hz => h z (List.mem_cons_of_mem _ hz))
    | true =>
      refine wpB (wp_only (hb rfl)) fun y hy => ?_
      exact wpB (comp_wp fun z hz => h z (List.mem_cons_of_mem _ hz)) fun ys ⟨zs, h1, h2⟩ => ⟨x :: zs, h1.cons₂ _, .cons hy h2⟩
theorem fold_eq {f : σ → α → Rs σ} {g : σ → α → σ} {I : σ → Prop} : ∀ {xs : List α} {s : σ}, I s → (∀ s x, I s → x ∈ xs → f s x = .ok (g s x) ∧ I (g s x)) → fold f xs s = .ok (xs.foldl g s) ∧ I (xs.foldl g s)
  | [], s, h0, _ => ⟨rfl, h0⟩
  | x :: xs, s, h0, h => by
    obtain ⟨h1, h2⟩ := h s x h0 (List.mem_cons_self ..)
    have h3 := fold_eq (xs := xs) h2 fun s y a b => h s y a (List.mem_cons_of_mem _ b)
    unfold fold
    rw [h1]
    exact h3
/-- an invariant over what has been walked -/
theorem fold_wp {f : σ → α → Rs σ} {X : XD → Prop} (I : List α → σ → Prop) : ∀ {xs : List α} (pre : List α) {s : σ}, I pre s → (∀ pre x s, I pre s → x ∈ xs → (f s x).wp (fun s' => I (pre ++ [x]) s') X) → (fold f xs s).wp (fun s' => I (pre ++ xs) s') X
  | [], pre, s, h0, _ => by rw [List.append_nil]; exact h0
  | x :: xs, pre, s, h0, h => by
    unfold fold
    refine wpB (h pre x s h0 (List.mem_cons_self ..)) fun s' h1 => ?_
    have := fold_wp I (xs := xs) (pre ++ [x]) h1 fun p y s a b => h p y s a (List.mem_cons_of_mem _ b)
    rwa [List.append_assoc, List.singleton_append] at this
theorem fold_wpN {f : σ → α → Rs σ} {X : XD → Prop} (N : Nat) (I : List α → σ → Prop) : ∀ {xs : List α} (pre : List α) {s : σ}, pre.length + xs.length ≤ N → I pre s → (∀ pre x s, pre.length < N → I pre s → x ∈ xs → (f s x).wp (fun s' => I (pre ++ [x]) s') X) → (fold f xs s).wp (fun s' => I (pre ++ xs) s') X
  | [], pre, s, _, h0, _ => by rw [List.append_nil]; exact h0
  | x :: xs, pre, s, hn, h0, h => by
    rw [List.length_cons] at hn
    unfold fold
    refine wpB (h pre x s (by omega) h0 (List.mem_cons_self ..)) fun s' h1 => ?_
    have := fold_wpN N I (xs := xs) (pre ++ [x]) (by rw [List.length_append, List.length_singleton]; omega) h1 fun p y s c a b => h p y s c a (List.mem_cons_of_mem _ b)
    rwa [List.append_assoc, List.singleton_append] at this
/-- a list that grows by one in each turn -/
theorem fold_app {f : List β → α → Rs (List β)} {g : α → β} : ∀ {xs : List α} {s : List β}, s.length + xs.length ≤ 16777216 → (∀ s x, x ∈ xs → s.length < 16777216 → f s x = .ok (s ++ [g x])) → fold f xs s = .ok (s ++ xs.map g)
  | [], s, _, _ => by rw [List.map_nil, List.append_nil]; rfl
  | x :: xs, s, hl, h => by
    rw [List.length_cons] at hl
    unfold fold
    rw [h s x (List.mem_cons_self ..) (by omega)]
    show fold f xs (s ++ [g x]) = _
    rw [fold_app (by rw [List.length_append, List.length_singleton]; omega) fun s y a b => h s y (List.mem_cons_of_mem _ a) b, List.append_assoc]; rfl
end Rs
variable {α β γ : Type}
theorem all2_len {P : α → β → Prop} {xs : List α} {ys : List β} (h : All2 P xs ys) : ys.length = xs.length := by
  induction h with
  | nil => rfl
  | cons _ _ ih => rw [List.length_cons, List.length_cons, ih]
theorem all2_mem {P : α → β → Prop} {xs : List α} {ys : List β} (h : All2 P xs ys) {y : β} (hy : y ∈ ys) : ∃ x ∈ xs, P x y := by
  induction h with
  | nil => cases hy
  | cons a _ ih =>
    rcases List.mem_cons.mp hy with e | e
    · subst e; exact ⟨_, List.mem_cons_self .., a⟩
    · obtain ⟨x, h1, h2⟩ := ih e; exact ⟨x, List.mem_cons_of_mem _ h1, h2⟩
theorem draw_wp {lim : Int} {Q : Int → Prop} {X : XD → Prop} (h0 : 0 < lim) (h1 : lim < 1073741824) (k : ∀ v : Nat, (v : Int) < lim → Q v) : (m__law_draw Drw.mk lim).wp Q X :=
  ⟨h0, h1, fun v a b => by obtain ⟨n, rfl⟩ := Int.eq_ofNat_of_zero_le a; exact k n b⟩
theorem rng_ok {n : Int} (h : n ≤ 16777216) (h0 : 0 ≤ n) : rangeR n = .ok (irange n) := gd_ok ⟨by omega, h⟩
theorem irange_nat (n : Nat) : irange (n : Int) = (List.range n).map fun i : Nat => (i : Int) := rfl
theorem rep_flat1 (x : α) : ∀ n : Nat, (List.replicate n [x]).flatten = List.replicate n x
  | 0 => rfl
  | n + 1 => by rw [List.replicate_succ, List.replicate_succ, List.flatten_cons, rep_flat1 x n]; rfl
theorem ix_ok {l : List α} {i : Nat} (h : i < l.length) : ixR l (i : Int) = .ok l[i] := by
  unfold ixR
  rw [L2.atI_nat (List.getElem?_eq_getElem h)]; rfl
theorem ix_at' {l : List α} {i : Nat} {v : α} (h : l[i]? = some v) : ixR l (i : Int) = .ok v := by
  unfold ixR
  rw [L2.atI_nat h]; rfl
theorem ix_last {l : List α} {v : α} (h : l.getLast? = some v) : ixR l (-(1 : Int)) = .ok v := by
  obtain ⟨r, rfl⟩ := List.getLast?_eq_some_iff.mp h
  unfold ixR
  rw [show (-(1 : Int)) = -1 from rfl, L2.atI_last]; rfl
theorem ix_0 {x : α} {l : List α} : ixR (x :: l) (0 : Int) = .ok x := ix_at' (i := 0) rfl
theorem ix_1 {x y : α} {l : List α} : ixR (x :: y :: l) (1 : Int) = .ok y := ix_at' (i := 1) rfl
theorem app_ok {l : List α} {v : α} (h : l.length < 16777216) : appR l v = .ok (l ++ [v]) := gd_ok h
theorem cat_ok {x y : List α} (h : x.length + y.length ≤ 16777216) : catR x y = .ok (x ++ y) := gd_ok h
theorem catLi_ok {x y : Li α} (h : x.l.length + y.l.length ≤ 16777216) : catLi x y = .ok ⟨x.l ++ y.l⟩ := gd_ok h
theorem rep1_ok {x : α} {n : Nat} (h : n ≤ 1000) : repR [x] (n : Int) = .ok (List.replicate n x) := by
  unfold repR
  rw [gd_ok ⟨rfl, by omega, by omega, Nat.le_of_ble_eq_true rfl⟩, Int.toNat_natCast, rep_flat1]
theorem repLi1_ok {x : α} {n : Nat} (h : n ≤ 16777216) : repLi ⟨[x]⟩ (n : Int) = .ok ⟨List.replicate n x⟩ := by
  unfold repLi
  rw [gd_ok ⟨⟨by omega, by omega⟩, by rw [Int.toNat_natCast]; show 1 * n ≤ _; omega⟩, Int.toNat_natCast, rep_flat1]
theorem cut_last' (l : List α) : cutD l none (some (-(1 : Int))) = l.dropLast := cut_last l
end DS

/-! PMpress: what presses compute -/
namespace DS
open PySem
structure Bt where
  b : Bool
  deriving DecidableEq
def Bt.i (x : Bt) : Int := if x.b then 1 else 0
theorem Bt.inj : ∀ {x y : Bt}, x.i = y.i → x = y
  | ⟨true⟩, ⟨true⟩, _ => rfl
  | ⟨false⟩, ⟨false⟩, _ => rfl
  | ⟨true⟩, ⟨false⟩, h => by cases h
  | ⟨false⟩, ⟨true⟩, h => by cases h
theorem Bt.lo (x : Bt) : 0 ≤ x.i ∧ x.i ≤ 1 := by unfold Bt.i; split <;> decide
def Bt.xor (x y : Bt) : Bt := ⟨Bool.xor x.b y.b⟩
theorem bt_xor (x y : Bt) : Builtin.bitXor x.i y.i = (x.xor y).i := by
  obtain ⟨x⟩ := x; obtain ⟨y⟩ := y
  cases x <;> cases y <;> decide
theorem bt_of {i : Int} (h0 : 0 ≤ i) (h1 : i ≤ 1) : ∃ x : Bt, i = x.i := by
  rcases (by omega : i = 0 ∨ i = 1) with h | h
  · exact ⟨⟨false⟩, h⟩
  · exact ⟨⟨true⟩, h⟩
structure Prs where
  n : Nat
  taps : List Nat
  h0 : 0 < n
  h64 : n ≤ 64
  hs : taps.Pairwise (· < ·)
  hl : taps.getLast? = some (n - 1)
theorem Prs.lt (p : Prs) {t : Nat} (h : t ∈ p.taps) : t < p.n := by
  have h0 := p.h0
  have key : ∀ {l : List Nat}, l.Pairwise (· < ·) → l.getLast? = some (p.n - 1) → ∀ u ∈ l, u ≤ p.n - 1 := by
    intro l
    induction l with
    | nil => intro _ _ u h; cases h
    | cons x r ih =>
      intro hp hl u hm
      rw [List.pairwise_cons] at hp
      cases r with
      | nil =>
        rw [List.mem_singleton] at hm
        have : x = p.n - 1 := Option.some.inj hl
        omega
      | cons y r =>
        rw [List.getLast?_cons_cons] at hl
        rcases List.mem_cons.mp hm with e | e
        · have := ih hp.2 hl y (List.mem_cons_self ..)
          have := hp.1 y (List.mem_cons_self ..)
          omega
        · exact ih hp.2 hl u e
  have := key p.hs p.hl t h
  omega
def parP (taps : List Nat) (st : List Bt) : Bt := ⟨decide ((taps.map fun t => (st.getD t ⟨false⟩).i).sum % 2 = 1)⟩
def stepP (taps : List Nat) (st wd : List Bt) : List Bt := ((parP taps st :: st.dropLast).zip wd).map fun z => z.1.xor z.2
theorem step_len {taps : List Nat} {st wd : List Bt} (h0 : 0 < wd.length) (h : st.length = wd.length) : (stepP taps st wd).length = wd.length := by
  unfold stepP
  rw [List.length_map, List.length_zip, List.length_cons, List.length_dropLast]
  omega
def pressP (n : Nat) (taps : List Nat) (ws : List (List Bt)) : List Bt := ws.foldl (stepP taps) (List.replicate n ⟨false⟩)
theorem press_len {n : Nat} {taps : List Nat} (h0 : 0 < n) : ∀ {ws : List (List Bt)}, (∀ w ∈ ws, w.length = n) → (pressP n taps ws).length = n := by
  intro ws
  have key : ∀ (ws : List (List Bt)) (st : List Bt), st.length = n → (∀ w ∈ ws, w.length = n) → (ws.foldl (stepP taps) st).length = n := by
    intro ws
    induction ws with
    | nil => intro st h _; exact h
    | cons w ws ih =>
      intro st h hw
      have hw1 := hw w (List.mem_cons_self ..)
      exact ih _ (by rw [step_len (by omega) (by omega)]; exact hw1) fun x hx => hw x (List.mem_cons_of_mem _ hx)
  exact fun h => key ws _ List.length_replicate h
def xorL (u w : List Bt) : List Bt := (u.zip w).map fun z => z.1.xor z.2
def addP (one other : List (List Bt)) : List (List Bt) := (one.zip other).map fun z => xorL z.1 z.2
def zeroL (n : Nat) : List Bt := List.replicate n ⟨false⟩
theorem xorL_cons (x y : Bt) (u w : List Bt) : xorL (x :: u) (y :: w) = x.xor y :: xorL u w := rfl
theorem xorL_len {u w : List Bt} (h : u.length = w.length) : (xorL u w).length = u.length := by
  unfold xorL; rw [List.length_map, List.length_zip]; omega
theorem bx_comm (x y : Bt) : x.xor y = y.xor x := by obtain ⟨x⟩ := x; obtain ⟨y⟩ := y; cases x <;> cases y <;> rfl
theorem bx_4 (a b c d : Bt) : (a.xor b).xor (c.xor d) = (a.xor c).xor (b.xor d) := by
  obtain ⟨a⟩ := a; obtain ⟨b⟩ := b; obtain ⟨c⟩ := c; obtain ⟨d⟩ := d
  cases a <;> cases b <;> cases c <;> cases d <;> rfl
theorem bx_self (x : Bt) : x.xor x = ⟨false⟩ := by obtain ⟨x⟩ := x; cases x <;> rfl
theorem bx_zero (x : Bt) : x.xor ⟨false⟩ = x := by obtain ⟨x⟩ := x; cases x <;> rfl
theorem bx_eq {x y : Bt} (h : x.xor y = ⟨false⟩) : x = y := by obtain ⟨x⟩ := x; obtain ⟨y⟩ := y; cases x <;> cases y <;> first | rfl | cases h
theorem bx_cancel {x y z : Bt} (h : x.xor z = y.xor z) : x = y := by
  obtain ⟨x⟩ := x; obtain ⟨y⟩ := y; obtain ⟨z⟩ := z; cases x <;> cases y <;> cases z <;> first | rfl | cases h
theorem xorL_4 : ∀ {a b c d : List Bt}, a.length = b.length → a.length = c.length → a.length = d.length → xorL (xorL a b) (xorL c d) = xorL (xorL a c) (xorL b d)
  | [], [], [], [], _, _, _ => rfl
  | x :: a, y :: b, z :: c, w :: d, h1, h2, h3 => by
    rw [xorL_cons, xorL_cons, xorL_cons, xorL_cons, xorL_cons, xorL_cons, bx_4, xorL_4 (by simpa using h1) (by simpa using h2) (by simpa using h3)]
  | [], _ :: _, _, _, h, _, _ => by simp at h
  | [], _, _ :: _, _, _, h, _ => by simp at h
  | [], _, _, _ :: _, _, _, h => by simp at h
  | _ :: _, [], _, _, h, _, _ => by simp at h
  | _ :: _, _, [], _, _, h, _ => by simp at h
  | _ :: _, _, _, [], _, _, h => by simp at h
theorem xorL_zero : ∀ {u w : List Bt}, u.length = w.length → (xorL u w = zeroL u.length ↔ u = w)
  | [], [], _ => ⟨fun _ => rfl, fun _ => rfl⟩
  | [], _ :: _, h => by simp at h
  | _ :: _, [], h => by simp at h
  | x :: u, y :: w, h => by
    have ih := xorL_zero (u := u) (w := w) (by simpa using h)
    rw [xorL_cons, List.length_cons, zeroL, List.replicate_succ, List.cons.injEq, List.cons.injEq]
    exact ⟨fun ⟨h1, h2⟩ => ⟨bx_eq h1, ih.mp h2⟩, fun ⟨h1, h2⟩ => ⟨by rw [h1, bx_self], ih.mpr h2⟩⟩
theorem xorL_cancel : ∀ {u v w : List Bt}, u.length = w.length → v.length = w.length → xorL u w = xorL v w → u = v
  | [], [], _, _, _, _ => rfl
  | [], _ :: _, _, h1, h2, _ => by rw [← h1] at h2; simp at h2
  | _ :: _, [], _, h1, h2, _ => by rw [← h2] at h1; simp at h1
  | x :: u, y :: v, [], h1, _, _ => by simp at h1
  | x :: u, y :: v, z :: w, h1, h2, h => by
    rw [xorL_cons, xorL_cons, List.cons.injEq] at h
    rw [bx_cancel h.1, xorL_cancel (by simpa using h1) (by simpa using h2) h.2]
theorem xorL_comm {u w : List Bt} (h : u.length = w.length) : xorL u w = xorL w u := by
  induction u generalizing w with
  | nil => cases w with | nil => rfl | cons _ _ => simp at h
  | cons x u ih => cases w with
    | nil => simp at h
    | cons y w => rw [xorL_cons, xorL_cons, bx_comm, ih (by simpa using h)]
theorem xorL_dropLast : ∀ {u w : List Bt}, u.length = w.length → (xorL u w).dropLast = xorL u.dropLast w.dropLast
  | [], [], _ => rfl
  | [], _ :: _, h => by simp at h
  | _ :: _, [], h => by simp at h
  | [x], [y], _ => rfl
  | [_], _ :: _ :: _, h => by simp at h
  | _ :: _ :: _, [_], h => by simp at h
  | x :: x' :: u, y :: y' :: w, h => by
    have ih := xorL_dropLast (u := x' :: u) (w := y' :: w) (by simpa using h)
    rw [xorL_cons, xorL_cons, List.dropLast_cons₂, List.dropLast_cons₂, List.dropLast_cons₂, xorL_cons, ← ih, xorL_cons]
theorem xorL_getD {u w : List Bt} (h : u.length = w.length) (i : Nat) : (xorL u w).getD i ⟨false⟩ = (u.getD i ⟨false⟩).xor (w.getD i ⟨false⟩) := by
  induction u generalizing w i with
  | nil => cases w with | nil => rfl | cons _ _ => simp at h
  | cons x u ih => cases w with
    | nil => simp at h
    | cons y w => cases i with
      | zero => rfl
      | succ i => rw [xorL_cons, List.getD_cons_succ, List.getD_cons_succ, List.getD_cons_succ]; exact ih (by simpa using h) i
theorem bi_mod (x y : Bt) : (x.xor y).i % 2 = (x.i + y.i) % 2 := by
  obtain ⟨x⟩ := x; obtain ⟨y⟩ := y; cases x <;> cases y <;> decide
theorem par_add {s t : List Bt} (h : s.length = t.length) (taps : List Nat) : parP taps (xorL s t) = (parP taps s).xor (parP taps t) := by
  have key : ((taps.map fun k => ((xorL s t).getD k ⟨false⟩).i).sum) % 2 = ((taps.map fun k => (s.getD k ⟨false⟩).i).sum + (taps.map fun k => (t.getD k ⟨false⟩).i).sum) % 2 := by
    induction taps with
    | nil => rfl
    | cons k r ih =>
      rw [List.map_cons, List.map_cons, List.map_cons, List.sum_cons, List.sum_cons, List.sum_cons, xorL_getD h]
      have := bi_mod (s.getD k ⟨false⟩) (t.getD k ⟨false⟩)
      omega
  unfold parP Bt.xor
  rw [key]
  congr 1
  generalize (taps.map fun k => (s.getD k ⟨false⟩).i).sum = a
  generalize (taps.map fun k => (t.getD k ⟨false⟩).i).sum = b
  rcases Int.emod_two_eq a with ha | ha <;> rcases Int.emod_two_eq b with hb | hb
  · rw [ha, hb, show (a + b) % 2 = 0 by omega]; rfl
  · rw [ha, hb, show (a + b) % 2 = 1 by omega]; rfl
  · rw [ha, hb, show (a + b) % 2 = 1 by omega]; rfl
  · rw [ha, hb, show (a + b) % 2 = 0 by omega]; rfl
theorem stepP_eq (taps : List Nat) (st wd : List Bt) : stepP taps st wd = xorL (parP taps st :: st.dropLast) wd := rfl
theorem step_add {n : Nat} (h0 : 0 < n) {taps : List Nat} {s t u w : List Bt} (hs : s.length = n) (ht : t.length = n) (hu : u.length = n) (hw : w.length = n) :
    stepP taps (xorL s t) (xorL u w) = xorL (stepP taps s u) (stepP taps t w) := by
  rw [stepP_eq, stepP_eq, stepP_eq, par_add (by omega), xorL_dropLast (by omega), ← xorL_cons]
  exact xorL_4 (by simp; omega) (by simp; omega) (by simp; omega)
theorem zero_get (n i : Nat) : (zeroL n).getD i ⟨false⟩ = ⟨false⟩ := by
  unfold zeroL
  rw [List.getD_eq_getElem?_getD, List.getElem?_replicate]
  split <;> rfl
theorem par_zero (taps : List Nat) (n : Nat) : parP taps (zeroL n) = ⟨false⟩ := by
  unfold parP
  have : (taps.map fun t => ((zeroL n).getD t ⟨false⟩).i).sum = 0 := by
    induction taps with
    | nil => rfl
    | cons k r ih => rw [List.map_cons, List.sum_cons, ih, zero_get]; rfl
  rw [this]; rfl
theorem step_zero {n : Nat} (h0 : 0 < n) (taps : List Nat) : stepP taps (zeroL n) (zeroL n) = zeroL n := by
  rw [stepP_eq, par_zero]
  have e : (⟨false⟩ : Bt) :: (zeroL n).dropLast = zeroL n := by
    unfold zeroL
    rw [List.dropLast_replicate, ← List.replicate_succ, show n - 1 + 1 = n by omega]
  rw [e]
  have h := (xorL_zero (u := zeroL n) (w := zeroL n) rfl).mpr rfl
  rw [h]; unfold zeroL; simp
theorem press_add {n : Nat} (h0 : 0 < n) (taps : List Nat) : ∀ {one other : List (List Bt)}, one.length = other.length → (∀ w ∈ one, w.length = n) → (∀ w ∈ other, w.length = n) →
    pressP n taps (addP one other) = xorL (pressP n taps one) (pressP n taps other) := by
  have key : ∀ (one other : List (List Bt)) (s t : List Bt), one.length = other.length → (∀ w ∈ one, w.length = n) → (∀ w ∈ other, w.length = n) → s.length = n → t.length = n →
      (addP one other).foldl (stepP taps) (xorL s t) = xorL (one.foldl (stepP taps) s) (other.foldl (stepP taps) t) := by
    intro one
    induction one with
    | nil => intro other s t h _ _ _ _; cases other with | nil => rfl | cons _ _ => simp at h
    | cons u one ih =>
      intro other s t h h1 h2 hs ht
      cases other with
      | nil => simp at h
      | cons w other =>
        have l1 := h1 u (List.mem_cons_self ..)
        have l2 := h2 w (List.mem_cons_self ..)
        show (addP one other).foldl (stepP taps) (stepP taps (xorL s t) (xorL u w)) = _
        rw [step_add h0 hs ht l1 l2]
        exact ih other _ _ (by simpa using h) (fun x hx => h1 x (List.mem_cons_of_mem _ hx)) (fun x hx => h2 x (List.mem_cons_of_mem _ hx)) (by rw [step_len (by omega) (by omega)]; exact l1) (by rw [step_len (by omega) (by omega)]; exact l2)
  intro one other h h1 h2
  have := key one other (zeroL n) (zeroL n) h h1 h2 (by simp [zeroL]) (by simp [zeroL])
  have hz : xorL (zeroL n) (zeroL n) = zeroL n := by
    have := (xorL_zero (u := zeroL n) (w := zeroL n) rfl).mpr rfl
    rw [this]; unfold zeroL; simp
  rw [hz] at this
  exact this
theorem press_lead {n : Nat} (h0 : 0 < n) (taps : List Nat) (k : Nat) (ws : List (List Bt)) : pressP n taps (List.replicate k (zeroL n) ++ ws) = pressP n taps ws := by
  induction k with
  | zero => rfl
  | succ k ih =>
    rw [List.replicate_succ]
    show ((List.replicate k (zeroL n) ++ ws).foldl (stepP taps) (stepP taps (zeroL n) (zeroL n))) = _
    rw [step_zero h0]; exact ih
/-- the step is one to one in the state -/
theorem step_inj (p : Prs) {s t w : List Bt} (hs : s.length = p.n) (ht : t.length = p.n) (hw : w.length = p.n) (h : stepP p.taps s w = stepP p.taps t w) : s = t := by
  have h0 := p.h0
  rw [stepP_eq, stepP_eq] at h
  have h1 := xorL_cancel (by simp; omega) (by simp; omega) h
  rw [List.cons.injEq] at h1
  obtain ⟨hp, hd⟩ := h1
  obtain ⟨init, e⟩ := List.getLast?_eq_some_iff.mp p.hl
  have low : ∀ k ∈ init, k < p.n - 1 := fun k hk => by
    have := p.hs
    rw [e, List.pairwise_append] at this
    exact this.2.2 k hk _ (List.mem_singleton.mpr rfl)
  have same : ∀ k, k < p.n - 1 → s.getD k ⟨false⟩ = t.getD k ⟨false⟩ := fun k hk => by
    have q : ∀ l : List Bt, l.length = p.n → l.getD k ⟨false⟩ = l.dropLast.getD k ⟨false⟩ := fun l hl => by
      rw [List.getD_eq_getElem?_getD, List.getD_eq_getElem?_getD, List.dropLast_eq_take, List.getElem?_take, if_pos (by omega)]
    rw [q s hs, q t ht, hd]
  have last : s.getD (p.n - 1) ⟨false⟩ = t.getD (p.n - 1) ⟨false⟩ := by
    unfold parP at hp
    have hp := congrArg Bt.b hp
    dsimp only at hp
    rw [e, List.map_append, List.map_append, List.sum_append, List.sum_append, List.map_singleton, List.map_singleton, List.sum_singleton, List.sum_singleton] at hp
    have e1 : (init.map fun k => (s.getD k ⟨false⟩).i) = init.map fun k => (t.getD k ⟨false⟩).i := List.map_congr_left fun k hk => by rw [same k (low k hk)]
    rw [e1] at hp
    have hp' := decide_eq_decide.mp hp
    generalize (init.map fun k => (t.getD k ⟨false⟩).i).sum = a at hp'
    refine Bt.inj ?_
    have b1 := (s.getD (p.n - 1) ⟨false⟩).lo
    have b2 := (t.getD (p.n - 1) ⟨false⟩).lo
    rcases Int.emod_two_eq a with ha | ha <;> omega
  apply List.ext_getElem (by omega)
  intro i h1 h2
  have g : ∀ (l : List Bt) (hi : i < l.length), l[i] = l.getD i ⟨false⟩ := fun l hi => by rw [List.getD_eq_getElem?_getD, List.getElem?_eq_getElem hi]; rfl
  rw [g s h1, g t h2]
  by_cases hi : i < p.n - 1
  · exact same i hi
  · rw [show i = p.n - 1 by omega]; exact last
theorem step_injW {taps : List Nat} {s u w : List Bt} (h0 : 0 < s.length) (hu : u.length = s.length) (hw : w.length = s.length) (h : stepP taps s u = stepP taps s w) : u = w := by
  rw [stepP_eq, stepP_eq] at h
  rw [xorL_comm (w := u) (by simp; omega), xorL_comm (w := w) (by simp; omega)] at h
  exact xorL_cancel (by simp; omega) (by simp; omega) h
theorem fold_inj (p : Prs) : ∀ (ws : List (List Bt)) {s t : List Bt}, (∀ w ∈ ws, w.length = p.n) → s.length = p.n → t.length = p.n → ws.foldl (stepP p.taps) s = ws.foldl (stepP p.taps) t → s = t
  | [], _, _, _, _, _, h => h
  | w :: ws, s, t, hw, hs, ht, h => by
    have h0 := p.h0
    have lw := hw w (List.mem_cons_self ..)
    have := fold_inj p ws (fun x hx => hw x (List.mem_cons_of_mem _ hx)) (by rw [step_len (by omega) (by omega)]; exact lw) (by rw [step_len (by omega) (by omega)]; exact lw) h
    exact step_inj p hs ht lw this
end DS


namespace DS
open PySem PySem.Spec PyProof.Rows L2
def subT : List (Str × List Str) := [("ProbeError", ["ProbeError", "ValueError", "Exception"]), ("BadSignature", ["BadSignature", "ProbeError", "ValueError", "Exception"])]
def xiT : List Str := ["BadSignature"]
def m__law_press (draws : Drw) (most : Int) : Rs (T2 Int (List Int)) :=
  ((m__law_draw Drw.mk most).bind fun z1 => .ok ((1 : Int) + z1)).bind fun width =>
  (((rangeR (width - (1 : Int))).bind fun z3 => (Rs.comp (fun k' : Int => ((m__law_draw Drw.mk (3 : Int)).bind fun z2 => .ok (decide (z2 = (0 : Int))))) (fun k' : Int => (.ok k')) z3).bind fun ys => .ok (Li.mk ys)).bind fun z4 => catLi z4 (Li.mk ([(width - (1 : Int))] : List Int))).bind fun taps =>
  (.ok (T2.mk width taps.l))
abbrev sp__law_press : SpD := sp (A := (Drw × (Int × Unit))) fun a => m__law_press a.1 a.2.1
abbrev N__law_press : List Str := ["draws", "most", "width", "taps", "k"]
def b__law_press : SL := (.cons (.asg (.v 2) (.bin false .Add (.int 1) (.call 0 (.cons (.var 0) (.cons (.var 1) .nil))))) (.cons (.asg (.v 3) (.bin false .Add (.lc false [("k", 4)] (.var 4) (.v 4) (.rng1 (.bin false .Sub (.var 2) (.int 1))) (.some (.cmp .Eq (.call 0 (.cons (.var 0) (.cons (.int 3) .nil))) (.int 0)))) (.lst false (.cons (.bin false .Sub (.var 2) (.int 1)) .nil)))) (.cons (.ret (.tup (.cons (.var 2) (.cons (.bty false .tuple (.cons (.var 3) .nil)) .nil)))) .nil)))
abbrev nm__law_press : Nm := { fn := ["_law_draw"] }
abbrev G__law_press : Gam := { fn := [(2, sp__law_draw)] }
theorem wp__law_press : ∀ ds M R RX, ds.length = 2 → sp__law_press ds M R RX → wpSs (G__law_press) (fun x _ M => RX x M) b__law_press ⟨fun _ M => R .non M, R, fun _ _ => False, fun _ _ => False⟩ (startD N__law_press ds) M :=
  fn_wp (A := (Drw × (Int × Unit))) (k := 3) (fun a => [.ar (Ar.P a.1), .ar (Ar.P a.2.1), .junk, .junk, .junk]) (fun _ => rfl) (fun _ => rfl) (by decide) fun F a _ =>
  let draws := a.1
  let most := a.2.1
  Sv.bnd (t1 := ((m__law_draw Drw.mk most).bind fun z1 => .ok ((1 : Int) + z1))) rfl .nil (Ev.add (ti := (.ok (1 : Int))) (tj := (m__law_draw Drw.mk most)) (Ev.int 1) (Ev.call (t := (fun a : (Drw × (Int × Unit)) => m__law_draw a.1 a.2.1)) (ts := (.ok (Drw.mk, (most, ())))) rfl (EvL.cons (α := Drw) (A := (Int × Unit)) (t := (.ok Drw.mk)) (ts := (.ok (most, ()))) (Ev.var rfl) (EvL.cons (α := Int) (A := Unit) (t := (.ok most)) (ts := (.ok ())) (Ev.var rfl) EvL.nil)))) fun width => (Sv.bnd (t1 := (((rangeR (width - (1 : Int))).bind fun z3 => (Rs.comp (fun k' : Int => ((m__law_draw Drw.mk (3 : Int)).bind fun z2 => .ok (decide (z2 = (0 : Int))))) (fun k' : Int => (.ok k')) z3).bind fun ys => .ok (Li.mk ys)).bind fun z4 => catLi z4 (Li.mk ([(width - (1 : Int))] : List Int)))) rfl .nil (Ev.catL (t1 := ((rangeR (width - (1 : Int))).bind fun z3 => (Rs.comp (fun k' : Int => ((m__law_draw Drw.mk (3 : Int)).bind fun z2 => .ok (decide (z2 = (0 : Int))))) (fun k' : Int => (.ok k')) z3).bind fun ys => .ok (Li.mk ys))) (t2 := (.ok (Li.mk ([(width - (1 : Int))] : List Int)))) (Ev.lc (tl := (rangeR (width - (1 : Int)))) (tc := (fun k' : Int => ((m__law_draw Drw.mk (3 : Int)).bind fun z2 => .ok (decide (z2 = (0 : Int)))))) (te := (fun k' : Int => (.ok k'))) (It.c (It.rng1 (ti := (.ok (width - (1 : Int)))) (Ev.sub (ti := (.ok width)) (tj := (.ok (1 : Int))) (Ev.var rfl) (Ev.int 1)))) (by decide) (fun k' => (Bd.v rfl)) (fun _ => (.ar (.ar (.ar (.junk (.junk .nil)))))) (fun k' : Int => (EvC.some (Ev.eq (by decide) (t1 := (m__law_draw Drw.mk (3 : Int))) (t2 := (.ok (0 : Int))) (Ev.call (t := (fun a : (Drw × (Int × Unit)) => m__law_draw a.1 a.2.1)) (ts := (.ok (Drw.mk, ((3 : Int), ())))) rfl (EvL.cons (α := Drw) (A := (Int × Unit)) (t := (.ok Drw.mk)) (ts := (.ok ((3 : Int), ()))) (Ev.var rfl) (EvL.cons (α := Int) (A := Unit) (t := (.ok (3 : Int))) (ts := (.ok ())) (Ev.int 3) EvL.nil))) (Ev.int 0)))) (fun k' : Int => (Ev.var rfl))) (Ev.lst (ts := (.ok ([(width - (1 : Int))] : List Int))) (EvL.listS (t := (.ok (width - (1 : Int)))) (ts := (.ok ([] : List Int))) (Ev.sub (ti := (.ok width)) (tj := (.ok (1 : Int))) (Ev.var rfl) (Ev.int 1)) (EvL.list0 (α := Int))))) fun taps => (Sv.ret (t := (.ok (T2.mk width taps.l))) .nil (fun _ => rfl) (Ev.t2 (t1 := (.ok width)) (t2 := (.ok taps.l)) (Ev.var rfl) (Ev.tuple (t := (.ok taps.l)) (Ev.sLs (t := (.ok taps.l)) (Ev.lLi (t := (.ok taps)) (Ev.var rfl)))))))
def m__law_bits_of (draws : Drw) (size : Int) : Rs (List Int) :=
  (((rangeR size).bind fun z1 => (Rs.mapR (fun k' : Int => (m__law_draw Drw.mk (2 : Int))) z1).bind fun ys => .ok (Li.mk ys)).map Li.l)
abbrev sp__law_bits_of : SpD := sp (A := (Drw × (Int × Unit))) fun a => m__law_bits_of a.1 a.2.1
abbrev N__law_bits_of : List Str := ["draws", "size", "k"]
def b__law_bits_of : SL := (.cons (.ret (.bty false .tuple (.cons (.lc false [("k", 2)] (.call 0 (.cons (.var 0) (.cons (.int 2) .nil))) (.v 2) (.rng1 (.var 1)) .none) .nil))) .nil)
abbrev nm__law_bits_of : Nm := { fn := ["_law_draw"] }
abbrev G__law_bits_of : Gam := { fn := [(2, sp__law_draw)] }
theorem wp__law_bits_of : ∀ ds M R RX, ds.length = 2 → sp__law_bits_of ds M R RX → wpSs (G__law_bits_of) (fun x _ M => RX x M) b__law_bits_of ⟨fun _ M => R .non M, R, fun _ _ => False, fun _ _ => False⟩ (startD N__law_bits_of ds) M :=
  fn_wp (A := (Drw × (Int × Unit))) (k := 1) (fun a => [.ar (Ar.P a.1), .ar (Ar.P a.2.1), .junk]) (fun _ => rfl) (fun _ => rfl) (by decide) fun F a _ =>
  let draws := a.1
  let size := a.2.1
  Sv.ret (t := (((rangeR size).bind fun z1 => (Rs.mapR (fun k' : Int => (m__law_draw Drw.mk (2 : Int))) z1).bind fun ys => .ok (Li.mk ys)).map Li.l)) .nil (fun _ => rfl) (Ev.tuple (t := (((rangeR size).bind fun z1 => (Rs.mapR (fun k' : Int => (m__law_draw Drw.mk (2 : Int))) z1).bind fun ys => .ok (Li.mk ys)).map Li.l)) (Ev.sLs (t := (((rangeR size).bind fun z1 => (Rs.mapR (fun k' : Int => (m__law_draw Drw.mk (2 : Int))) z1).bind fun ys => .ok (Li.mk ys)).map Li.l)) (Ev.lLi (t := ((rangeR size).bind fun z1 => (Rs.mapR (fun k' : Int => (m__law_draw Drw.mk (2 : Int))) z1).bind fun ys => .ok (Li.mk ys))) (Ev.lcM (tl := (rangeR size)) (fun k' : Int => (m__law_draw Drw.mk (2 : Int))) (It.c (It.rng1 (ti := (.ok size)) (Ev.var rfl))) (by decide) (fun k' => (Bd.v rfl)) (fun _ => (.ar (.ar (.junk .nil)))) (fun k' : Int => (Ev.call (t := (fun a : (Drw × (Int × Unit)) => m__law_draw a.1 a.2.1)) (ts := (.ok (Drw.mk, ((2 : Int), ())))) rfl (EvL.cons (α := Drw) (A := (Int × Unit)) (t := (.ok Drw.mk)) (ts := (.ok ((2 : Int), ()))) (Ev.var rfl) (EvL.cons (α := Int) (A := Unit) (t := (.ok (2 : Int))) (ts := (.ok ())) (Ev.int 2) EvL.nil))))))))
def m__law_after (width : Int) (taps : (List Int)) (state : (List Int)) (word : (List Int)) : Rs (List Int) :=
  let back := (0 : Int)
  (Rs.fold (fun (s : Int) (tap : Int) =>
    let back := s
    ((ixR state tap).bind fun z1 => .ok (back + z1)).bind fun back =>
    .ok back) taps back).bind fun s =>
  let back := s
  let rows := ([] : List Int)
  (rangeR width).bind fun z6 => (Rs.fold (fun (s : (List Int)) (k' : Int) =>
    let rows := s
    (((if (decide (k' = (0 : Int))) then (.ok back) else (ixR state (k' - (1 : Int)))).bind fun z2 => (ixR word k').bind fun z3 => .ok (z2 + z3)).bind fun z4 => .ok (z4 % 2)).bind fun z5 => (appR rows z5).bind fun rows =>
    .ok rows) z6 rows).bind fun s =>
  let rows := s
  (.ok rows)
abbrev sp__law_after : SpD := sp (A := (Int × ((List Int) × ((List Int) × ((List Int) × Unit))))) fun a => m__law_after a.1 a.2.1 a.2.2.1 a.2.2.2.1
abbrev N__law_after : List Str := ["width", "taps", "state", "word", "back", "tap", "rows", "k"]
def b__law_after : SL := (.cons (.asg (.v 4) (.int 0)) (.cons (.for (.v 5) (.seq (.var 1)) (.cons (.asg (.v 4) (.bin false .Add (.var 4) (.ix (.var 2) (.var 5)))) .nil)) (.cons (.asg (.v 6) (.lst true .nil)) (.cons (.for (.v 7) (.rng1 (.var 0)) (.cons (.ex (.bm .append (.var 6) (.cons (.bin false .Mod (.bty false .int (.cons (.bin false .Add (.ife (.cmp .Eq (.var 7) (.int 0)) (.var 4) (.ix (.var 2) (.bin false .Sub (.var 7) (.int 1)))) (.ix (.var 3) (.var 7))) .nil)) (.int 2)) .nil))) .nil)) (.cons (.ret (.bty false .tuple (.cons (.var 6) .nil))) .nil)))))
abbrev nm__law_after : Nm := {  }
abbrev G__law_after : Gam := {  }
theorem wp__law_after : ∀ ds M R RX, ds.length = 4 → sp__law_after ds M R RX → wpSs (G__law_after) (fun x _ M => RX x M) b__law_after ⟨fun _ M => R .non M, R, fun _ _ => False, fun _ _ => False⟩ (startD N__law_after ds) M :=
  fn_wp (A := (Int × ((List Int) × ((List Int) × ((List Int) × Unit))))) (k := 4) (fun a => [.ar (Ar.P a.1), .ar (Ar.P a.2.1), .ar (Ar.P a.2.2.1), .ar (Ar.P a.2.2.2.1), .junk, .junk, .junk, .junk]) (fun _ => rfl) (fun _ => rfl) (by decide) fun F a _ =>
  let width := a.1
  let taps := a.2.1
  let state := a.2.2.1
  let word := a.2.2.2.1
  Sv.let (v := (0 : Int)) rfl (Ev.int 0) (let back := (0 : Int)
  Sv.forP (l := taps) (s0 := back) (fun s : Int => [.ar (Pv (width : Int)), .ar (Pv (taps : (List Int))), .ar (Pv (state : (List Int))), .ar (Pv (word : (List Int))), .ar (Pv (s : Int)), .junk, .junk, .junk]) _ (It.tup (t := (.ok taps)) (Ev.var rfl)) .nil (.same (.same (.same (.same (.same (.junk (.junk (.junk .nil)))))))) (fun s tap => (Bd.v rfl)) (fun s tap => (let back := s
  Sv.bnd (t1 := ((ixR state tap).bind fun z1 => .ok (back + z1))) rfl .nil (Ev.add (ti := (.ok back)) (tj := (ixR state tap)) (Ev.var rfl) (Ev.ix (t := (.ok state)) (ti := (.ok tap)) (Ev.sTup (t := (.ok state)) (Ev.var rfl)) (Ev.var rfl))) fun back => (Sv.nil (c := back) (.inr rfl) (.same (.same (.same (.same (.same (.junk (.junk (.junk .nil))))))))))) fun s => (let back := s
  Sv.mkl (v := ([] : List Int)) rfl (EvM.lst (ts := (.ok ([] : List Int))) (EvL.list0 (α := Int))) (let rows := ([] : List Int)
  Sv.for (tl := (rangeR width)) (s0 := rows) (fun s : (List Int) => [.ar (Pv (width : Int)), .ar (Pv (taps : (List Int))), .ar (Pv (state : (List Int))), .ar (Pv (word : (List Int))), .ar (Pv (back : Int)), .junk, .mu true (ml (s : List Int)), .junk]) _ (It.rng1 (ti := (.ok width)) (Ev.var rfl)) .nil (.same (.same (.same (.same (.same (.junk (.same (.junk .nil)))))))) (fun s k' => (Bd.v rfl)) (fun s k' => (let rows := s
  Sv.app (l := rows) (t1 := (((if (decide (k' = (0 : Int))) then (.ok back) else (ixR state (k' - (1 : Int)))).bind fun z2 => (ixR word k').bind fun z3 => .ok (z2 + z3)).bind fun z4 => .ok (z4 % 2))) rfl .nil (Ev.modk (k := 2) (by decide) (ti := ((if (decide (k' = (0 : Int))) then (.ok back) else (ixR state (k' - (1 : Int)))).bind fun z2 => (ixR word k').bind fun z3 => .ok (z2 + z3))) (Ev.toInt (ti := ((if (decide (k' = (0 : Int))) then (.ok back) else (ixR state (k' - (1 : Int)))).bind fun z2 => (ixR word k').bind fun z3 => .ok (z2 + z3))) (Ev.add (ti := (if (decide (k' = (0 : Int))) then (.ok back) else (ixR state (k' - (1 : Int))))) (tj := (ixR word k')) (Ev.ife (tc := (.ok (decide (k' = (0 : Int))))) (P := Pv (α := Int)) (t1 := (.ok back)) (t2 := (ixR state (k' - (1 : Int)))) (Ev.eq (by decide) (t1 := (.ok k')) (t2 := (.ok (0 : Int))) (Ev.var rfl) (Ev.int 0)) (Ev.var rfl) (Ev.ix (t := (.ok state)) (ti := (.ok (k' - (1 : Int)))) (Ev.sTup (t := (.ok state)) (Ev.var rfl)) (Ev.sub (ti := (.ok k')) (tj := (.ok (1 : Int))) (Ev.var rfl) (Ev.int 1)))) (Ev.ix (t := (.ok word)) (ti := (.ok k')) (Ev.sTup (t := (.ok word)) (Ev.var rfl)) (Ev.var rfl))))) fun rows => (Sv.nil (c := rows) (.inr rfl) (.same (.same (.same (.same (.same (.junk (.same (.junk .nil))))))))))) fun s => (let rows := s
  Sv.ret (t := (.ok rows)) .nil (fun _ => rfl) (Ev.tuple (t := (.ok rows)) (Ev.sLs (t := (.ok rows)) (Ev.mv rfl)))))))
def m__law_signature (width : Int) (taps : (List Int)) (words : (Li (List Int))) : Rs (List Int) :=
  (repR ([(0 : Int)] : List Int) width).bind fun state =>
  (Rs.fold (fun (s : (List Int)) (word : (List Int)) =>
    let state := s
    (m__law_after width taps state word).bind fun state =>
    .ok state) words.l state).bind fun s =>
  let state := s
  (.ok state)
abbrev sp__law_signature : SpD := sp (A := (Int × ((List Int) × ((Li (List Int)) × Unit)))) fun a => m__law_signature a.1 a.2.1 a.2.2.1
abbrev N__law_signature : List Str := ["width", "taps", "words", "state", "word"]
def b__law_signature : SL := (.cons (.asg (.v 3) (.bin false .Mult (.tup (.cons (.int 0) .nil)) (.var 0))) (.cons (.for (.v 4) (.seq (.var 2)) (.cons (.asg (.v 3) (.call 0 (.cons (.var 0) (.cons (.var 1) (.cons (.var 3) (.cons (.var 4) .nil)))))) .nil)) (.cons (.ret (.var 3)) .nil)))
abbrev nm__law_signature : Nm := { fn := ["_law_after"] }
abbrev G__law_signature : Gam := { fn := [(4, sp__law_after)] }
theorem wp__law_signature : ∀ ds M R RX, ds.length = 3 → sp__law_signature ds M R RX → wpSs (G__law_signature) (fun x _ M => RX x M) b__law_signature ⟨fun _ M => R .non M, R, fun _ _ => False, fun _ _ => False⟩ (startD N__law_signature ds) M :=
  fn_wp (A := (Int × ((List Int) × ((Li (List Int)) × Unit)))) (k := 2) (fun a => [.ar (Ar.P a.1), .ar (Ar.P a.2.1), .ar (Ar.P a.2.2.1), .junk, .junk]) (fun _ => rfl) (fun _ => rfl) (by decide) fun F a _ =>
  let width := a.1
  let taps := a.2.1
  let words := a.2.2.1
  Sv.bnd (t1 := (repR ([(0 : Int)] : List Int) width)) rfl .nil (Ev.repT (t1 := (.ok ([(0 : Int)] : List Int))) (tj := (.ok width)) (Ev.tupL (ts := (.ok ([(0 : Int)] : List Int))) (EvL.listS (t := (.ok (0 : Int))) (ts := (.ok ([] : List Int))) (Ev.int 0) (EvL.list0 (α := Int)))) (Ev.var rfl)) fun state => (Sv.forP (l := words.l) (s0 := state) (fun s : (List Int) => [.ar (Pv (width : Int)), .ar (Pv (taps : (List Int))), .ar (Pv (words : (Li (List Int)))), .ar (Pv (s : (List Int))), .junk]) _ (It.li (t := (.ok words)) (Ev.var rfl)) .nil (.same (.same (.same (.same (.junk .nil))))) (fun s word => (Bd.v rfl)) (fun s word => (let state := s
  Sv.bnd (t1 := (m__law_after width taps state word)) rfl .nil (Ev.call (t := (fun a : (Int × ((List Int) × ((List Int) × ((List Int) × Unit)))) => m__law_after a.1 a.2.1 a.2.2.1 a.2.2.2.1)) (ts := (.ok (width, (taps, (state, (word, ())))))) rfl (EvL.cons (α := Int) (A := ((List Int) × ((List Int) × ((List Int) × Unit)))) (t := (.ok width)) (ts := (.ok (taps, (state, (word, ()))))) (Ev.var rfl) (EvL.cons (α := (List Int)) (A := ((List Int) × ((List Int) × Unit))) (t := (.ok taps)) (ts := (.ok (state, (word, ())))) (Ev.var rfl) (EvL.cons (α := (List Int)) (A := ((List Int) × Unit)) (t := (.ok state)) (ts := (.ok (word, ()))) (Ev.var rfl) (EvL.cons (α := (List Int)) (A := Unit) (t := (.ok word)) (ts := (.ok ())) (Ev.var rfl) EvL.nil))))) fun state => (Sv.nil (c := state) (.inr rfl) (.same (.same (.same (.same (.junk .nil)))))))) fun s => (let state := s
  Sv.ret (t := (.ok state)) .nil (fun _ => rfl) (Ev.var rfl)))
def m__law_fold (width : Int) (bits : (List Int)) : Rs (List Int) :=
  (((rangeR width).bind fun z4 => (Rs.mapR (fun k' : Int => (((((rangeR3 k' (bits.length : Int) width).bind fun z1 => (Rs.mapR (fun j : Int => (ixR bits j)) z1).bind fun ys => .ok (Li.mk ys)).map Li.l).bind fun z2 => .ok z2.sum).bind fun z3 => .ok (z3 % 2))) z4).bind fun ys => .ok (Li.mk ys)).map Li.l)
abbrev sp__law_fold : SpD := sp (A := (Int × ((List Int) × Unit))) fun a => m__law_fold a.1 a.2.1
abbrev N__law_fold : List Str := ["width", "bits", "k", "j"]
def b__law_fold : SL := (.cons (.ret (.bty false .tuple (.cons (.lc false [("k", 2)] (.bin false .Mod (.bty false .int (.cons (.blt false .sum (.cons (.lc false [("j", 3)] (.ix (.var 1) (.var 3)) (.v 3) (.rng3 (.var 2) (.blt false .len (.cons (.var 1) .nil)) (.var 0)) .none) .nil)) .nil)) (.int 2)) (.v 2) (.rng1 (.var 0)) .none) .nil))) .nil)
abbrev nm__law_fold : Nm := {  }
abbrev G__law_fold : Gam := {  }
theorem wp__law_fold : ∀ ds M R RX, ds.length = 2 → sp__law_fold ds M R RX → wpSs (G__law_fold) (fun x _ M => RX x M) b__law_fold ⟨fun _ M => R .non M, R, fun _ _ => False, fun _ _ => False⟩ (startD N__law_fold ds) M :=
  fn_wp (A := (Int × ((List Int) × Unit))) (k := 2) (fun a => [.ar (Ar.P a.1), .ar (Ar.P a.2.1), .junk, .junk]) (fun _ => rfl) (fun _ => rfl) (by decide) fun F a _ =>
  let width := a.1
  let bits := a.2.1
  Sv.ret (t := (((rangeR width).bind fun z4 => (Rs.mapR (fun k' : Int => (((((rangeR3 k' (bits.length : Int) width).bind fun z1 => (Rs.mapR (fun j : Int => (ixR bits j)) z1).bind fun ys => .ok (Li.mk ys)).map Li.l).bind fun z2 => .ok z2.sum).bind fun z3 => .ok (z3 % 2))) z4).bind fun ys => .ok (Li.mk ys)).map Li.l)) .nil (fun _ => rfl) (Ev.tuple (t := (((rangeR width).bind fun z4 => (Rs.mapR (fun k' : Int => (((((rangeR3 k' (bits.length : Int) width).bind fun z1 => (Rs.mapR (fun j : Int => (ixR bits j)) z1).bind fun ys => .ok (Li.mk ys)).map Li.l).bind fun z2 => .ok z2.sum).bind fun z3 => .ok (z3 % 2))) z4).bind fun ys => .ok (Li.mk ys)).map Li.l)) (Ev.sLs (t := (((rangeR width).bind fun z4 => (Rs.mapR (fun k' : Int => (((((rangeR3 k' (bits.length : Int) width).bind fun z1 => (Rs.mapR (fun j : Int => (ixR bits j)) z1).bind fun ys => .ok (Li.mk ys)).map Li.l).bind fun z2 => .ok z2.sum).bind fun z3 => .ok (z3 % 2))) z4).bind fun ys => .ok (Li.mk ys)).map Li.l)) (Ev.lLi (t := ((rangeR width).bind fun z4 => (Rs.mapR (fun k' : Int => (((((rangeR3 k' (bits.length : Int) width).bind fun z1 => (Rs.mapR (fun j : Int => (ixR bits j)) z1).bind fun ys => .ok (Li.mk ys)).map Li.l).bind fun z2 => .ok z2.sum).bind fun z3 => .ok (z3 % 2))) z4).bind fun ys => .ok (Li.mk ys))) (Ev.lcM (tl := (rangeR width)) (fun k' : Int => (((((rangeR3 k' (bits.length : Int) width).bind fun z1 => (Rs.mapR (fun j : Int => (ixR bits j)) z1).bind fun ys => .ok (Li.mk ys)).map Li.l).bind fun z2 => .ok z2.sum).bind fun z3 => .ok (z3 % 2))) (It.c (It.rng1 (ti := (.ok width)) (Ev.var rfl))) (by decide) (fun k' => (Bd.v rfl)) (fun _ => (.ar (.ar (.junk (.junk .nil))))) (fun k' : Int => (Ev.modk (k := 2) (by decide) (ti := ((((rangeR3 k' (bits.length : Int) width).bind fun z1 => (Rs.mapR (fun j : Int => (ixR bits j)) z1).bind fun ys => .ok (Li.mk ys)).map Li.l).bind fun z2 => .ok z2.sum)) (Ev.toInt (ti := ((((rangeR3 k' (bits.length : Int) width).bind fun z1 => (Rs.mapR (fun j : Int => (ixR bits j)) z1).bind fun ys => .ok (Li.mk ys)).map Li.l).bind fun z2 => .ok z2.sum)) (Ev.sum (t := (((rangeR3 k' (bits.length : Int) width).bind fun z1 => (Rs.mapR (fun j : Int => (ixR bits j)) z1).bind fun ys => .ok (Li.mk ys)).map Li.l)) (Ev.lLi (t := ((rangeR3 k' (bits.length : Int) width).bind fun z1 => (Rs.mapR (fun j : Int => (ixR bits j)) z1).bind fun ys => .ok (Li.mk ys))) (Ev.lcM (tl := (rangeR3 k' (bits.length : Int) width)) (fun j : Int => (ixR bits j)) (It.c (It.rng3 (ti := (.ok k')) (tj := (.ok (bits.length : Int))) (tk := (.ok width)) (Ev.var rfl) (Ev.len (t := (.ok bits)) (Ev.sTup (t := (.ok bits)) (Ev.var rfl))) (Ev.var rfl))) (by decide) (fun j => (Bd.v rfl)) (fun _ => (.ar (.ar (.ar (.junk .nil))))) (fun j : Int => (Ev.ix (t := (.ok bits)) (ti := (.ok j)) (Ev.sTup (t := (.ok bits)) (Ev.var rfl)) (Ev.var rfl)))))))))))))
def m_is_integer (value : D) (least : Int) (greatest : Int) : Rs Bool :=
  (((isT .int value).bind fun z1 => .ok (!z1)).bind fun z2 => if z2 then .ok true else (isT .bool value)).bind fun z6 =>
  if z6 then
    (.ok false)
  else
    (((Rs.of (Dn.dn (α := Int) value)).bind fun z4 => .ok (decide (least ≤ z4))).bind fun z5 => if z5 then ((Rs.of (Dn.dn (α := Int) value)).bind fun z3 => .ok (decide (z3 ≤ greatest))) else .ok false)
abbrev sp_is_integer : SpD := sp (A := (D × (Int × (Int × Unit)))) fun a => m_is_integer a.1 a.2.1 a.2.2.1
abbrev N_is_integer : List Str := ["value", "least", "greatest"]
def b_is_integer : SL := (.cons (.ifs (.or (.not (.isi (.var 0) .int)) (.isi (.var 0) .bool)) (.cons (.ret (.bl false)) .nil) .nil) (.cons (.ret (.and (.cmp .LtE (.var 1) (.var 0)) (.cmp .LtE (.var 0) (.var 2)))) .nil))
abbrev nm_is_integer : Nm := {  }
abbrev G_is_integer : Gam := {  }
theorem wp_is_integer : ∀ ds M R RX, ds.length = 3 → sp_is_integer ds M R RX → wpSs (G_is_integer) (fun x _ M => RX x M) b_is_integer ⟨fun _ M => R .non M, R, fun _ _ => False, fun _ _ => False⟩ (startD N_is_integer ds) M :=
  fn_wp (A := (D × (Int × (Int × Unit)))) (k := 0) (fun a => [.ar (Ar.P a.1), .ar (Ar.P a.2.1), .ar (Ar.P a.2.2.1)]) (fun _ => rfl) (fun _ => rfl) (by decide) fun F a _ =>
  let value := a.1
  let least := a.2.1
  let greatest := a.2.2.1
  Sv.ifd (tc := (((isT .int value).bind fun z1 => .ok (!z1)).bind fun z2 => if z2 then .ok true else (isT .bool value))) .nil (Ev.or (tb := ((isT .int value).bind fun z1 => .ok (!z1))) (tc := (isT .bool value)) (Ev.not (tb := (isT .int value)) (Ev.isi (T := .int) (t := (.ok value)) (Ev.var rfl))) (Ev.isi (T := .bool) (t := (.ok value)) (Ev.var rfl))) (Sv.ret (t := (.ok false)) .nil (fun _ => rfl) (Ev.bl false)) (Sv.ret (t := (((Rs.of (Dn.dn (α := Int) value)).bind fun z4 => .ok (decide (least ≤ z4))).bind fun z5 => if z5 then ((Rs.of (Dn.dn (α := Int) value)).bind fun z3 => .ok (decide (z3 ≤ greatest))) else .ok false)) .nil (fun _ => rfl) (Ev.and (tb := ((Rs.of (Dn.dn (α := Int) value)).bind fun z4 => .ok (decide (least ≤ z4)))) (tc := ((Rs.of (Dn.dn (α := Int) value)).bind fun z3 => .ok (decide (z3 ≤ greatest)))) (Ev.le (ti := (.ok least)) (tj := (Rs.of (Dn.dn (α := Int) value))) (Ev.var rfl) (Ev.down (α := Int) (t := .ok value) (Ev.var rfl))) (Ev.le (ti := (Rs.of (Dn.dn (α := Int) value))) (tj := (.ok greatest)) (Ev.down (α := Int) (t := .ok value) (Ev.var rfl)) (Ev.var rfl))))
def m_is_bit (value : D) : Rs Bool :=
  (m_is_integer value (0 : Int) (1 : Int))
abbrev sp_is_bit : SpD := sp (A := (D × Unit)) fun a => m_is_bit a.1
abbrev N_is_bit : List Str := ["value"]
def b_is_bit : SL := (.cons (.ret (.call 0 (.cons (.var 0) (.cons (.int 0) (.cons (.int 1) .nil))))) .nil)
abbrev nm_is_bit : Nm := { fn := ["is_integer"] }
abbrev G_is_bit : Gam := { fn := [(3, sp_is_integer)] }
theorem wp_is_bit : ∀ ds M R RX, ds.length = 1 → sp_is_bit ds M R RX → wpSs (G_is_bit) (fun x _ M => RX x M) b_is_bit ⟨fun _ M => R .non M, R, fun _ _ => False, fun _ _ => False⟩ (startD N_is_bit ds) M :=
  fn_wp (A := (D × Unit)) (k := 0) (fun a => [.ar (Ar.P a.1)]) (fun _ => rfl) (fun _ => rfl) (by decide) fun F a _ =>
  let value := a.1
  Sv.ret (t := (m_is_integer value (0 : Int) (1 : Int))) .nil (fun _ => rfl) (Ev.call (t := (fun a : (D × (Int × (Int × Unit))) => m_is_integer a.1 a.2.1 a.2.2.1)) (ts := (.ok (value, ((0 : Int), ((1 : Int), ()))))) rfl (EvL.cons (α := D) (A := (Int × (Int × Unit))) (t := (.ok value)) (ts := (.ok ((0 : Int), ((1 : Int), ())))) (Ev.var rfl) (EvL.cons (α := Int) (A := (Int × Unit)) (t := (.ok (0 : Int))) (ts := (.ok ((1 : Int), ()))) (Ev.int 0) (EvL.cons (α := Int) (A := Unit) (t := (.ok (1 : Int))) (ts := (.ok ())) (Ev.int 1) EvL.nil))))
def m_are_bits (value : D) (count : Int) : Rs Bool :=
  (((isT .tuple value).bind fun z2 => .ok (!z2)).bind fun z3 => if z3 then .ok true else ((dLen value).bind fun z1 => .ok (!(decide (z1 = count))))).bind fun z6 =>
  if z6 then
    (.ok false)
  else
    ((((Rs.of (dSeq value)).bind fun z4 => (Rs.mapR (fun item : D => (m_is_bit item)) z4).bind fun ys => .ok (Li.mk ys)).map Li.l).bind fun z5 => .ok (z5.all id))
abbrev sp_are_bits : SpD := sp (A := (D × (Int × Unit))) fun a => m_are_bits a.1 a.2.1
abbrev N_are_bits : List Str := ["value", "count", "item"]
def b_are_bits : SL := (.cons (.ifs (.or (.not (.isi (.var 0) .tuple)) (.cmp .NotEq (.blt false .len (.cons (.var 0) .nil)) (.var 1))) (.cons (.ret (.bl false)) .nil) .nil) (.cons (.ret (.blt false .all (.cons (.lc false [("item", 2)] (.call 0 (.cons (.var 2) .nil)) (.v 2) (.seq (.var 0)) .none) .nil))) .nil))
abbrev nm_are_bits : Nm := { fn := ["is_bit"] }
abbrev G_are_bits : Gam := { fn := [(1, sp_is_bit)] }
theorem wp_are_bits : ∀ ds M R RX, ds.length = 2 → sp_are_bits ds M R RX → wpSs (G_are_bits) (fun x _ M => RX x M) b_are_bits ⟨fun _ M => R .non M, R, fun _ _ => False, fun _ _ => False⟩ (startD N_are_bits ds) M :=
  fn_wp (A := (D × (Int × Unit))) (k := 1) (fun a => [.ar (Ar.P a.1), .ar (Ar.P a.2.1), .junk]) (fun _ => rfl) (fun _ => rfl) (by decide) fun F a _ =>
  let value := a.1
  let count := a.2.1
  Sv.ifd (tc := (((isT .tuple value).bind fun z2 => .ok (!z2)).bind fun z3 => if z3 then .ok true else ((dLen value).bind fun z1 => .ok (!(decide (z1 = count)))))) .nil (Ev.or (tb := ((isT .tuple value).bind fun z2 => .ok (!z2))) (tc := ((dLen value).bind fun z1 => .ok (!(decide (z1 = count))))) (Ev.not (tb := (isT .tuple value)) (Ev.isi (T := .tuple) (t := (.ok value)) (Ev.var rfl))) (Ev.ne (by decide) (t1 := (dLen value)) (t2 := (.ok count)) (Ev.lenDyn (t := (.ok value)) (Ev.var rfl)) (Ev.var rfl))) (Sv.ret (t := (.ok false)) .nil (fun _ => rfl) (Ev.bl false)) (Sv.ret (t := ((((Rs.of (dSeq value)).bind fun z4 => (Rs.mapR (fun item : D => (m_is_bit item)) z4).bind fun ys => .ok (Li.mk ys)).map Li.l).bind fun z5 => .ok (z5.all id))) .nil (fun _ => rfl) (Ev.all (t := (((Rs.of (dSeq value)).bind fun z4 => (Rs.mapR (fun item : D => (m_is_bit item)) z4).bind fun ys => .ok (Li.mk ys)).map Li.l)) (Ev.lLi (t := ((Rs.of (dSeq value)).bind fun z4 => (Rs.mapR (fun item : D => (m_is_bit item)) z4).bind fun ys => .ok (Li.mk ys))) (Ev.lcM (tl := (Rs.of (dSeq value))) (fun item : D => (m_is_bit item)) (It.c (It.dyn (t := (.ok value)) (Ev.var rfl))) (by decide) (fun item => (Bd.v rfl)) (fun _ => (.ar (.ar (.junk .nil)))) (fun item : D => (Ev.call (t := (fun a : (D × Unit) => m_is_bit a.1)) (ts := (.ok (item, ()))) rfl (EvL.cons (α := D) (A := Unit) (t := (.ok item)) (ts := (.ok ())) (Ev.var rfl) EvL.nil)))))))
structure C_Press where
  width : Int
  taps : (List Int)
abbrev ob_Press (v : C_Press) : List (Str × D) := [("width", Tc.d v.width), ("taps", Tc.d v.taps)]
instance : Tc C_Press := ⟨fun v => .ins "Press" (ob_Press v)⟩
def ms_Press : List Str := ["step", "fold", "press", "signature", "blind", "period"]
theorem fl_Press_width : ∀ v : C_Press, fldD (Tc.d v) "width" = some (("Press" : Str), Tc.d v.width) := fun v => fld_of (show (["width", "taps"] : List Str).Nodup by decide +kernel) (.head _)
theorem fl_Press_taps : ∀ v : C_Press, fldD (Tc.d v) "taps" = some (("Press" : Str), Tc.d v.taps) := fun v => fld_of (show (["width", "taps"] : List Str).Nodup by decide +kernel) (.tail _ (.head _))
theorem ho_Press {m : Str} (h : m ∈ ms_Press) : ∀ (v : C_Press) dr M x, Ar.P v dr M x → ∃ fs, flds M x = some (("Press" : Str), fs) ∧ fs.lookup m = none := fun v dr M x p => ho_of p (show ∀ m ∈ ms_Press, m ∉ (["width", "taps"] : List Str) by decide +kernel) h
def m_Press_step (self : C_Press) (state : D) (word : D) : Rs (List Int) :=
  (((m_are_bits state self.width).bind fun z2 => .ok (!z2)).bind fun z3 => if z3 then .ok true else ((m_are_bits word self.width).bind fun z1 => .ok (!z1))).bind fun z12 =>
  if z12 then
    .ex ("BadSignature", [])
  else
    (((((Rs.mapR (fun tap : Int => ((Rs.of (Dn.dn (α := (List Int)) state)).bind fun z4 => ixR z4 tap)) self.taps).bind fun ys => .ok (Li.mk ys)).map Li.l).bind fun z5 => .ok z5.sum).bind fun z6 => .ok (band z6 (1 : Int))).bind fun back =>
    (((Rs.of (Dn.dn (α := (List Int)) state)).bind fun z7 => .ok (cutD z7 none (some (-(1 : Int))))).bind fun z8 => catR ([back] : List Int) z8).bind fun moved =>
    ((((Rs.of (Dn.dn (α := (List Int)) word)).bind fun z9 => .ok (zip2 moved z9)).bind fun z11 => .ok (Li.mk (z11.map (fun p10 : (T2 Int Int) => let one := p10.a; let other := p10.b; (bxor one other))))).map Li.l)
abbrev sp_Press_step : SpD := sp (A := (C_Press × (D × (D × Unit)))) fun a => m_Press_step a.1 a.2.1 a.2.2.1
abbrev N_Press_step : List Str := ["self", "state", "word", "back", "moved", "tap", "one", "other"]
def b_Press_step : SL := (.cons (.ifs (.or (.not (.call 0 (.cons (.var 1) (.cons (.fld (.var 0) "width") .nil)))) (.not (.call 0 (.cons (.var 2) (.cons (.fld (.var 0) "width") .nil))))) (.cons (.raise 0 .nil) .nil) .nil) (.cons (.asg (.v 3) (.bin false .BitAnd (.blt false .sum (.cons (.lc false [("tap", 5)] (.ix (.var 1) (.var 5)) (.v 5) (.seq (.fld (.var 0) "taps")) .none) .nil)) (.int 1))) (.cons (.asg (.v 4) (.bin false .Add (.tup (.cons (.var 3) .nil)) (.sl false (.var 1) .none (.some (.neg (.int 1)))))) (.cons (.ret (.bty false .tuple (.cons (.lc false [("one", 6), ("other", 7)] (.bin false .BitXor (.var 6) (.var 7)) (.tup (.cons (.v 6) (.cons (.v 7) .nil))) (.zip (.var 4) (.var 2)) .none) .nil))) .nil))))
abbrev nm_Press_step : Nm := { fn := ["are_bits"], exc := ["BadSignature"] }
abbrev G_Press_step : Gam := { fn := [(2, sp_are_bits)], exc := [("BadSignature", [])], fl := [("Press", "width"), ("Press", "taps")] }
theorem wp_Press_step : ∀ ds M R RX, ds.length = 3 → sp_Press_step ds M R RX → wpSs (G_Press_step) (fun x _ M => RX x M) b_Press_step ⟨fun _ M => R .non M, R, fun _ _ => False, fun _ _ => False⟩ (startD N_Press_step ds) M :=
  fn_wp (A := (C_Press × (D × (D × Unit)))) (k := 5) (fun a => [.ar (Ar.P a.1), .ar (Ar.P a.2.1), .ar (Ar.P a.2.2.1), .junk, .junk, .junk, .junk, .junk]) (fun _ => rfl) (fun _ => rfl) (by decide) fun F a _ =>
  let self := a.1
  let state := a.2.1
  let word := a.2.2.1
  Sv.ifd (tc := (((m_are_bits state self.width).bind fun z2 => .ok (!z2)).bind fun z3 => if z3 then .ok true else ((m_are_bits word self.width).bind fun z1 => .ok (!z1)))) .nil (Ev.or (tb := ((m_are_bits state self.width).bind fun z2 => .ok (!z2))) (tc := ((m_are_bits word self.width).bind fun z1 => .ok (!z1))) (Ev.not (tb := (m_are_bits state self.width)) (Ev.call (t := (fun a : (D × (Int × Unit)) => m_are_bits a.1 a.2.1)) (ts := (.ok (state, (self.width, ())))) rfl (EvL.cons (α := D) (A := (Int × Unit)) (t := (.ok state)) (ts := (.ok (self.width, ()))) (Ev.var rfl) (EvL.cons (α := Int) (A := Unit) (t := (.ok self.width)) (ts := (.ok ())) (Ev.fld (fun v : C_Press => v.width) fl_Press_width (.head _) (t := (.ok self)) (Ev.var rfl)) EvL.nil)))) (Ev.not (tb := (m_are_bits word self.width)) (Ev.call (t := (fun a : (D × (Int × Unit)) => m_are_bits a.1 a.2.1)) (ts := (.ok (word, (self.width, ())))) rfl (EvL.cons (α := D) (A := (Int × Unit)) (t := (.ok word)) (ts := (.ok (self.width, ()))) (Ev.var rfl) (EvL.cons (α := Int) (A := Unit) (t := (.ok self.width)) (ts := (.ok ())) (Ev.fld (fun v : C_Press => v.width) fl_Press_width (.head _) (t := (.ok self)) (Ev.var rfl)) EvL.nil))))) (Sv.raise0 rfl .nil) (Sv.bnd (t1 := (((((Rs.mapR (fun tap : Int => ((Rs.of (Dn.dn (α := (List Int)) state)).bind fun z4 => ixR z4 tap)) self.taps).bind fun ys => .ok (Li.mk ys)).map Li.l).bind fun z5 => .ok z5.sum).bind fun z6 => .ok (band z6 (1 : Int)))) rfl .nil (Ev.band (ti := ((((Rs.mapR (fun tap : Int => ((Rs.of (Dn.dn (α := (List Int)) state)).bind fun z4 => ixR z4 tap)) self.taps).bind fun ys => .ok (Li.mk ys)).map Li.l).bind fun z5 => .ok z5.sum)) (tj := (.ok (1 : Int))) (Ev.sum (t := (((Rs.mapR (fun tap : Int => ((Rs.of (Dn.dn (α := (List Int)) state)).bind fun z4 => ixR z4 tap)) self.taps).bind fun ys => .ok (Li.mk ys)).map Li.l)) (Ev.lLi (t := ((Rs.mapR (fun tap : Int => ((Rs.of (Dn.dn (α := (List Int)) state)).bind fun z4 => ixR z4 tap)) self.taps).bind fun ys => .ok (Li.mk ys))) (Ev.lcM (tl := (.ok self.taps)) (fun tap : Int => ((Rs.of (Dn.dn (α := (List Int)) state)).bind fun z4 => ixR z4 tap)) (ItC.seq (t := (.ok self.taps)) (Ev.sTup (t := (.ok self.taps)) (Ev.fld (fun v : C_Press => v.taps) fl_Press_taps (.tail _ (.head _)) (t := (.ok self)) (Ev.var rfl)))) (by decide) (fun tap => (Bd.v rfl)) (fun _ => (.ar (.ar (.ar (.junk (.junk (.junk (.junk (.junk .nil))))))))) (fun tap : Int => (Ev.ix (t := (Rs.of (Dn.dn (α := (List Int)) state))) (ti := (.ok tap)) (Ev.sTup (t := (Rs.of (Dn.dn (α := (List Int)) state))) (Ev.down (α := (List Int)) (t := .ok state) (Ev.var rfl))) (Ev.var rfl)))))) (Ev.int 1)) fun back => (Sv.bnd (t1 := (((Rs.of (Dn.dn (α := (List Int)) state)).bind fun z7 => .ok (cutD z7 none (some (-(1 : Int))))).bind fun z8 => catR ([back] : List Int) z8)) rfl .nil (Ev.catT (t1 := (.ok ([back] : List Int))) (t2 := ((Rs.of (Dn.dn (α := (List Int)) state)).bind fun z7 => .ok (cutD z7 none (some (-(1 : Int)))))) (Ev.tupL (ts := (.ok ([back] : List Int))) (EvL.listS (t := (.ok back)) (ts := (.ok ([] : List Int))) (Ev.var rfl) (EvL.list0 (α := Int)))) (Ev.slT (t := (Rs.of (Dn.dn (α := (List Int)) state))) (tl := (.ok none)) (th := (.ok (some (-(1 : Int))))) (Ev.down (α := (List Int)) (t := .ok state) (Ev.var rfl)) EvO.none (EvO.some (ti := (.ok (-(1 : Int)))) (Ev.neg (ti := (.ok (1 : Int))) (Ev.int 1))))) fun moved => (Sv.ret (t := ((((Rs.of (Dn.dn (α := (List Int)) word)).bind fun z9 => .ok (zip2 moved z9)).bind fun z11 => .ok (Li.mk (z11.map (fun p10 : (T2 Int Int) => let one := p10.a; let other := p10.b; (bxor one other))))).map Li.l)) .nil (fun _ => rfl) (Ev.tuple (t := ((((Rs.of (Dn.dn (α := (List Int)) word)).bind fun z9 => .ok (zip2 moved z9)).bind fun z11 => .ok (Li.mk (z11.map (fun p10 : (T2 Int Int) => let one := p10.a; let other := p10.b; (bxor one other))))).map Li.l)) (Ev.sLs (t := ((((Rs.of (Dn.dn (α := (List Int)) word)).bind fun z9 => .ok (zip2 moved z9)).bind fun z11 => .ok (Li.mk (z11.map (fun p10 : (T2 Int Int) => let one := p10.a; let other := p10.b; (bxor one other))))).map Li.l)) (Ev.lLi (t := (((Rs.of (Dn.dn (α := (List Int)) word)).bind fun z9 => .ok (zip2 moved z9)).bind fun z11 => .ok (Li.mk (z11.map (fun p10 : (T2 Int Int) => let one := p10.a; let other := p10.b; (bxor one other)))))) (Ev.lcP (tl := ((Rs.of (Dn.dn (α := (List Int)) word)).bind fun z9 => .ok (zip2 moved z9))) (fun p10 : (T2 Int Int) => let one := p10.a; let other := p10.b; (bxor one other)) (It.c (It.zipT (t1 := (.ok moved)) (t2 := (Rs.of (Dn.dn (α := (List Int)) word))) (Ev.var rfl) (Ev.down (α := (List Int)) (t := .ok word) (Ev.var rfl)))) (by decide) (fun p10 => (Bd.tup rfl rfl (.cons (Bd.v rfl) (.cons (Bd.v rfl) .nil)))) (fun _ => (.ar (.ar (.ar (.ar (.ar (.junk (.junk (.junk .nil))))))))) (fun p10 : (T2 Int Int) => let one := p10.a; let other := p10.b; (Ev.bxor (ti := (.ok one)) (tj := (.ok other)) (Ev.var rfl) (Ev.var rfl))))))))))
def m_Press_press (self : C_Press) (words : (Li D)) : Rs (List Int) :=
  (repR ([(0 : Int)] : List Int) self.width).bind fun state =>
  (Rs.fold (fun (s : (List Int)) (word : D) =>
    let state := s
    (m_Press_step self (Tc.d state) word).bind fun state =>
    .ok state) words.l state).bind fun s =>
  let state := s
  (.ok state)
abbrev sp_Press_press : SpD := sp (A := (C_Press × ((Li D) × Unit))) fun a => m_Press_press a.1 a.2.1
abbrev N_Press_press : List Str := ["self", "words", "state", "word"]
def b_Press_press : SL := (.cons (.asg (.v 2) (.bin false .Mult (.tup (.cons (.int 0) .nil)) (.fld (.var 0) "width"))) (.cons (.for (.v 3) (.seq (.var 1)) (.cons (.asg (.v 2) (.meth 0 (.var 0) (.cons (.var 2) (.cons (.var 3) .nil)))) .nil)) (.cons (.ret (.var 2)) .nil)))
abbrev nm_Press_press : Nm := { mt := [("Press", "step")] }
abbrev G_Press_press : Gam := { mt := [("Press", "step", 3, sp_Press_step)], fl := [("Press", "width")] }
theorem wp_Press_press : ∀ ds M R RX, ds.length = 2 → sp_Press_press ds M R RX → wpSs (G_Press_press) (fun x _ M => RX x M) b_Press_press ⟨fun _ M => R .non M, R, fun _ _ => False, fun _ _ => False⟩ (startD N_Press_press ds) M :=
  fn_wp (A := (C_Press × ((Li D) × Unit))) (k := 2) (fun a => [.ar (Ar.P a.1), .ar (Ar.P a.2.1), .junk, .junk]) (fun _ => rfl) (fun _ => rfl) (by decide) fun F a _ =>
  let self := a.1
  let words := a.2.1
  Sv.bnd (t1 := (repR ([(0 : Int)] : List Int) self.width)) rfl .nil (Ev.repT (t1 := (.ok ([(0 : Int)] : List Int))) (tj := (.ok self.width)) (Ev.tupL (ts := (.ok ([(0 : Int)] : List Int))) (EvL.listS (t := (.ok (0 : Int))) (ts := (.ok ([] : List Int))) (Ev.int 0) (EvL.list0 (α := Int)))) (Ev.fld (fun v : C_Press => v.width) fl_Press_width (.head _) (t := (.ok self)) (Ev.var rfl))) fun state => (Sv.forP (l := words.l) (s0 := state) (fun s : (List Int) => [.ar (Pv (self : C_Press)), .ar (Pv (words : (Li D))), .ar (Pv (s : (List Int))), .junk]) _ (It.li (t := (.ok words)) (Ev.var rfl)) .nil (.same (.same (.same (.junk .nil)))) (fun s word => (Bd.v rfl)) (fun s word => (let state := s
  Sv.bnd (t1 := (m_Press_step self (Tc.d state) word)) rfl .nil (Ev.meth (ta := (.ok self)) (t := (fun a : (C_Press × (D × (D × Unit))) => m_Press_step a.1 a.2.1 a.2.2.1)) (ts := (.ok ((Tc.d state), (word, ())))) rfl (ho_Press (show ("step" : Str) ∈ ms_Press by decide +kernel)) (Ev.var rfl) (EvL.cons (α := D) (A := (D × Unit)) (t := (.ok (Tc.d state))) (ts := (.ok (word, ()))) (Ev.dyn (t := .ok state) (Ev.var rfl)) (EvL.cons (α := D) (A := Unit) (t := (.ok word)) (ts := (.ok ())) (Ev.var rfl) EvL.nil))) fun state => (Sv.nil (c := state) (.inr rfl) (.same (.same (.same (.junk .nil))))))) fun s => (let state := s
  Sv.ret (t := (.ok state)) .nil (fun _ => rfl) (Ev.var rfl)))
def m_Press_fold (self : C_Press) (response : D) : Rs (List Int) :=
  (((isT .tuple response).bind fun z5 => .ok (!z5)).bind fun z6 => if z6 then .ok true else (((((dLen response).bind fun z1 => .ok (z1, ())).bind fun z2 => .ok (response, z2)).bind fun z3 => m_are_bits (z3.1) (z3.2.1)).bind fun z4 => .ok (!z4))).bind fun z15 =>
  if z15 then
    .ex ("BadSignature", [])
  else
    ((repLi (Li.mk ([(0 : Int)] : List Int)) self.width).bind fun l => .ok l.l).bind fun word =>
    ((Rs.of (Dn.dn (α := (List Int)) response)).bind fun z7 => .ok (enumF 0 z7)).bind fun z14 => (Rs.fold (fun (s : (List Int)) (p8 : (T2 Int Int)) =>
      let word := s
      let index := p8.a
      let bit := p8.b
      (((divR index self.width).bind fun z9 => mulR z9 self.width).bind fun z10 => .ok (index - z10)).bind fun z11 => (ixR word z11).bind fun z12 => (setR word z11 (bxor z12 bit)).bind fun word =>
      .ok word) z14 word).bind fun s =>
    let word := s
    (.ok word)
abbrev sp_Press_fold : SpD := sp (A := (C_Press × (D × Unit))) fun a => m_Press_fold a.1 a.2.1
abbrev N_Press_fold : List Str := ["self", "response", "word", "index", "bit"]
def b_Press_fold : SL := (.cons (.ifs (.or (.not (.isi (.var 1) .tuple)) (.not (.call 0 (.cons (.var 1) (.cons (.blt false .len (.cons (.var 1) .nil)) .nil))))) (.cons (.raise 0 .nil) .nil) .nil) (.cons (.asg (.v 2) (.bin true .Mult (.lst false (.cons (.int 0) .nil)) (.fld (.var 0) "width"))) (.cons (.for (.tup (.cons (.v 3) (.cons (.v 4) .nil))) (.enum (.var 1)) (.cons (.augs (.var 2) (.bin false .Sub (.var 3) (.bin false .Mult (.bin false .FloorDiv (.var 3) (.fld (.var 0) "width")) (.fld (.var 0) "width"))) .BitXor (.var 4)) .nil)) (.cons (.ret (.bty false .tuple (.cons (.var 2) .nil))) .nil))))
abbrev nm_Press_fold : Nm := { fn := ["are_bits"], exc := ["BadSignature"] }
abbrev G_Press_fold : Gam := { fn := [(2, sp_are_bits)], exc := [("BadSignature", [])], fl := [("Press", "width")] }
theorem wp_Press_fold : ∀ ds M R RX, ds.length = 2 → sp_Press_fold ds M R RX → wpSs (G_Press_fold) (fun x _ M => RX x M) b_Press_fold ⟨fun _ M => R .non M, R, fun _ _ => False, fun _ _ => False⟩ (startD N_Press_fold ds) M :=
  fn_wp (A := (C_Press × (D × Unit))) (k := 3) (fun a => [.ar (Ar.P a.1), .ar (Ar.P a.2.1), .junk, .junk, .junk]) (fun _ => rfl) (fun _ => rfl) (by decide) fun F a _ =>
  let self := a.1
  let response := a.2.1
  Sv.ifd (tc := (((isT .tuple response).bind fun z5 => .ok (!z5)).bind fun z6 => if z6 then .ok true else (((((dLen response).bind fun z1 => .ok (z1, ())).bind fun z2 => .ok (response, z2)).bind fun z3 => m_are_bits (z3.1) (z3.2.1)).bind fun z4 => .ok (!z4)))) .nil (Ev.or (tb := ((isT .tuple response).bind fun z5 => .ok (!z5))) (tc := (((((dLen response).bind fun z1 => .ok (z1, ())).bind fun z2 => .ok (response, z2)).bind fun z3 => m_are_bits (z3.1) (z3.2.1)).bind fun z4 => .ok (!z4))) (Ev.not (tb := (isT .tuple response)) (Ev.isi (T := .tuple) (t := (.ok response)) (Ev.var rfl))) (Ev.not (tb := ((((dLen response).bind fun z1 => .ok (z1, ())).bind fun z2 => .ok (response, z2)).bind fun z3 => m_are_bits (z3.1) (z3.2.1))) (Ev.call (t := (fun a : (D × (Int × Unit)) => m_are_bits a.1 a.2.1)) (ts := (((dLen response).bind fun z1 => .ok (z1, ())).bind fun z2 => .ok (response, z2))) rfl (EvL.cons (α := D) (A := (Int × Unit)) (t := (.ok response)) (ts := ((dLen response).bind fun z1 => .ok (z1, ()))) (Ev.var rfl) (EvL.cons (α := Int) (A := Unit) (t := (dLen response)) (ts := (.ok ())) (Ev.lenDyn (t := (.ok response)) (Ev.var rfl)) EvL.nil))))) (Sv.raise0 rfl .nil) (Sv.mk (t1 := ((repLi (Li.mk ([(0 : Int)] : List Int)) self.width).bind fun l => .ok l.l)) rfl .nil (EvM.repL (t1 := (.ok (Li.mk ([(0 : Int)] : List Int)))) (tj := (.ok self.width)) (Ev.lst (ts := (.ok ([(0 : Int)] : List Int))) (EvL.listS (t := (.ok (0 : Int))) (ts := (.ok ([] : List Int))) (Ev.int 0) (EvL.list0 (α := Int)))) (Ev.fld (fun v : C_Press => v.width) fl_Press_width (.head _) (t := (.ok self)) (Ev.var rfl))) fun word => (Sv.for (tl := ((Rs.of (Dn.dn (α := (List Int)) response)).bind fun z7 => .ok (enumF 0 z7))) (s0 := word) (fun s : (List Int) => [.ar (Pv (self : C_Press)), .ar (Pv (response : D)), .mu true (ml (s : List Int)), .junk, .junk]) _ (It.enumT (t1 := (Rs.of (Dn.dn (α := (List Int)) response))) (Ev.down (α := (List Int)) (t := .ok response) (Ev.var rfl))) .nil (.same (.same (.same (.junk (.junk .nil))))) (fun s p8 => (Bd.tup rfl rfl (.cons (Bd.v rfl) (.cons (Bd.v rfl) .nil)))) (fun s p8 => (let word := s
  let index := p8.a
  let bit := p8.b
  Sv.augl (op := .BitXor) (l := word) (tk := (((divR index self.width).bind fun z9 => mulR z9 self.width).bind fun z10 => .ok (index - z10))) (tj := (.ok bit)) (fun i j : Int => .ok (bxor i j)) (fun _ _ _ _ _ q => q) rfl .nil (Ev.sub (ti := (.ok index)) (tj := ((divR index self.width).bind fun z9 => mulR z9 self.width)) (Ev.var rfl) (Ev.mul (ti := (divR index self.width)) (tj := (.ok self.width)) (Ev.div (ti := (.ok index)) (tj := (.ok self.width)) (Ev.var rfl) (Ev.fld (fun v : C_Press => v.width) fl_Press_width (.head _) (t := (.ok self)) (Ev.var rfl))) (Ev.fld (fun v : C_Press => v.width) fl_Press_width (.head _) (t := (.ok self)) (Ev.var rfl)))) (Ev.var rfl) fun word => (Sv.nil (c := word) (.inr rfl) (.same (.same (.same (.junk (.junk .nil)))))))) fun s => (let word := s
  Sv.ret (t := (.ok word)) .nil (fun _ => rfl) (Ev.tuple (t := (.ok word)) (Ev.sLs (t := (.ok word)) (Ev.mv rfl))))))
def m_Press_signature (self : C_Press) (table : (Li D)) : Rs (List Int) :=
  ((((Rs.mapX (fun response : D => ((m_Press_fold self response).map Tc.d)) table.l).bind fun ys => .ok (Li.mk ys)).bind fun z1 => .ok (z1, ())).bind fun z2 => m_Press_press self (z2.1))
abbrev sp_Press_signature : SpD := sp (A := (C_Press × ((Li D) × Unit))) fun a => m_Press_signature a.1 a.2.1
abbrev N_Press_signature : List Str := ["self", "table", "response"]
def b_Press_signature : SL := (.cons (.ret (.meth 0 (.var 0) (.cons (.lcx false [("response", 2)] (.meth 1 (.var 0) (.cons (.var 2) .nil)) (.v 2) (.seq (.var 1)) .none) .nil))) .nil)
abbrev nm_Press_signature : Nm := { mt := [("Press", "press"), ("Press", "fold")] }
abbrev G_Press_signature : Gam := { mt := [("Press", "press", 2, sp_Press_press), ("Press", "fold", 2, sp_Press_fold)] }
theorem wp_Press_signature : ∀ ds M R RX, ds.length = 2 → sp_Press_signature ds M R RX → wpSs (G_Press_signature) (fun x _ M => RX x M) b_Press_signature ⟨fun _ M => R .non M, R, fun _ _ => False, fun _ _ => False⟩ (startD N_Press_signature ds) M :=
  fn_wp (A := (C_Press × ((Li D) × Unit))) (k := 1) (fun a => [.ar (Ar.P a.1), .ar (Ar.P a.2.1), .junk]) (fun _ => rfl) (fun _ => rfl) (by decide) fun F a _ =>
  let self := a.1
  let table := a.2.1
  Sv.ret (t := ((((Rs.mapX (fun response : D => ((m_Press_fold self response).map Tc.d)) table.l).bind fun ys => .ok (Li.mk ys)).bind fun z1 => .ok (z1, ())).bind fun z2 => m_Press_press self (z2.1))) .nil (fun _ => rfl) (Ev.meth (ta := (.ok self)) (t := (fun a : (C_Press × ((Li D) × Unit)) => m_Press_press a.1 a.2.1)) (ts := (((Rs.mapX (fun response : D => ((m_Press_fold self response).map Tc.d)) table.l).bind fun ys => .ok (Li.mk ys)).bind fun z1 => .ok (z1, ()))) rfl (ho_Press (show ("press" : Str) ∈ ms_Press by decide +kernel)) (Ev.var rfl) (EvL.cons (α := (Li D)) (A := Unit) (t := ((Rs.mapX (fun response : D => ((m_Press_fold self response).map Tc.d)) table.l).bind fun ys => .ok (Li.mk ys))) (ts := (.ok ())) (Ev.lxM (tl := (.ok table.l)) (fun response : D => ((m_Press_fold self response).map Tc.d)) (ItC.seq (t := (.ok table.l)) (Ev.sLs (t := (.ok table.l)) (Ev.lLi (t := (.ok table)) (Ev.var rfl)))) (by decide) (fun response => (Bd.v rfl)) (fun _ => (.ar (.ar (.junk .nil)))) (fun response : D => (Ev.dyn (Ev.meth (ta := (.ok self)) (t := (fun a : (C_Press × (D × Unit)) => m_Press_fold a.1 a.2.1)) (ts := (.ok (response, ()))) rfl (ho_Press (show ("fold" : Str) ∈ ms_Press by decide +kernel)) (Ev.var rfl) (EvL.cons (α := D) (A := Unit) (t := (.ok response)) (ts := (.ok ())) (Ev.var rfl) EvL.nil))))) EvL.nil))
def m__law_refused (press : C_Press) (call : Int) (one : D) (other : D) : Rs Bool :=
  ((if (decide (call = (0 : Int))) then
    (m_Press_step press one other).bind fun _ =>
    .ok (.nx ())
  else
    if (decide (call = (1 : Int))) then
      (m_Press_press press (Li.mk ([other] : List D))).bind fun _ =>
      .ok (.nx ())
    else
      if (decide (call = (2 : Int))) then
        (m_Press_fold press other).bind fun _ =>
        .ok (.nx ())
      else
        (m_Press_signature press (Li.mk ([other] : List D))).bind fun _ =>
        .ok (.nx ()) : Rs (Ct Unit Bool)).catchR fun x' => pick subT x' [(("BadSignature" : Str), (fun x' : XD => ((.ok (.rt true) : Rs (Ct Unit Bool))).only))]).bind fun c => c.el (fun s =>
  (.ok false)) (fun v => .ok v) fun _ => .no
abbrev sp__law_refused : SpD := sp (A := (C_Press × (Int × (D × (D × Unit))))) fun a => m__law_refused a.1 a.2.1 a.2.2.1 a.2.2.2.1
abbrev N__law_refused : List Str := ["press", "call", "one", "other"]
def b__law_refused : SL := (.cons (.try (.cons (.ifs (.cmp .Eq (.var 1) (.int 0)) (.cons (.ex (.meth 0 (.var 0) (.cons (.var 2) (.cons (.var 3) .nil)))) .nil) (.cons (.ifs (.cmp .Eq (.var 1) (.int 1)) (.cons (.ex (.meth 1 (.var 0) (.cons (.lst false (.cons (.var 3) .nil)) .nil))) .nil) (.cons (.ifs (.cmp .Eq (.var 1) (.int 2)) (.cons (.ex (.meth 2 (.var 0) (.cons (.var 3) .nil))) .nil) (.cons (.ex (.meth 3 (.var 0) (.cons (.lst false (.cons (.var 3) .nil)) .nil))) .nil)) .nil)) .nil)) .nil) (.cons "BadSignature" none (.cons (.ret (.bl true)) .nil) .nil)) (.cons (.ret (.bl false)) .nil))
abbrev nm__law_refused : Nm := { mt := [("Press", "step"), ("Press", "press"), ("Press", "fold"), ("Press", "signature")], hn := ["BadSignature"] }
abbrev G__law_refused : Gam := { mt := [("Press", "step", 3, sp_Press_step), ("Press", "press", 2, sp_Press_press), ("Press", "fold", 2, sp_Press_fold), ("Press", "signature", 2, sp_Press_signature)], sub := subT }
theorem wp__law_refused : ∀ ds M R RX, ds.length = 4 → sp__law_refused ds M R RX → wpSs (G__law_refused) (fun x _ M => RX x M) b__law_refused ⟨fun _ M => R .non M, R, fun _ _ => False, fun _ _ => False⟩ (startD N__law_refused ds) M :=
  fn_wp (A := (C_Press × (Int × (D × (D × Unit))))) (k := 0) (fun a => [.ar (Ar.P a.1), .ar (Ar.P a.2.1), .ar (Ar.P a.2.2.1), .ar (Ar.P a.2.2.2.1)]) (fun _ => rfl) (fun _ => rfl) (by decide) fun F a _ =>
  let press := a.1
  let call := a.2.1
  let one := a.2.2.1
  let other := a.2.2.2.1
  Sv.try (shx := [.ar (Pv (press : C_Press)), .ar (Pv (call : Int)), .ar (Pv (one : D)), .ar (Pv (other : D))]) (σ := Unit) (β := Bool) (tb := (if (decide (call = (0 : Int))) then
    (m_Press_step press one other).bind fun _ =>
    .ok (.nx ())
  else
    if (decide (call = (1 : Int))) then
      (m_Press_press press (Li.mk ([other] : List D))).bind fun _ =>
      .ok (.nx ())
    else
      if (decide (call = (2 : Int))) then
        (m_Press_fold press other).bind fun _ =>
        .ok (.nx ())
      else
        (m_Press_signature press (Li.mk ([other] : List D))).bind fun _ =>
        .ok (.nx ()) : Rs (Ct Unit Bool))) (hs := [(("BadSignature" : Str), (fun x' : XD => ((.ok (.rt true) : Rs (Ct Unit Bool))).only))]) (lr := (fun v : Bool => .rt (Pv v))) (t2 := fun s : Unit =>
    (.ok false)) (fun s : Unit => [.ar (Pv (press : C_Press)), .ar (Pv (call : Int)), .ar (Pv (one : D)), .ar (Pv (other : D))]) (fun v => v) (fun _ => rfl) hp_rt .nil (Sv.ifdP (c := (decide (call = (0 : Int)))) (Ev.eq (by decide) (t1 := (.ok call)) (t2 := (.ok (0 : Int))) (Ev.var rfl) (Ev.int 0)) (Sv.ex (P := Pv (α := (List Int))) (t1 := (m_Press_step press one other)) (.same (.same (.same (.same .nil)))) (Ev.meth (ta := (.ok press)) (t := (fun a : (C_Press × (D × (D × Unit))) => m_Press_step a.1 a.2.1 a.2.2.1)) (ts := (.ok (one, (other, ())))) rfl (ho_Press (show ("step" : Str) ∈ ms_Press by decide +kernel)) (Ev.var rfl) (EvL.cons (α := D) (A := (D × Unit)) (t := (.ok one)) (ts := (.ok (other, ()))) (Ev.var rfl) (EvL.cons (α := D) (A := Unit) (t := (.ok other)) (ts := (.ok ())) (Ev.var rfl) EvL.nil))) (Sv.nil (c := Ct.nx ()) (.inl rfl) (.same (.same (.same (.same .nil)))))) (Sv.ifdP (c := (decide (call = (1 : Int)))) (Ev.eq (by decide) (t1 := (.ok call)) (t2 := (.ok (1 : Int))) (Ev.var rfl) (Ev.int 1)) (Sv.ex (P := Pv (α := (List Int))) (t1 := (m_Press_press press (Li.mk ([other] : List D)))) (.same (.same (.same (.same .nil)))) (Ev.meth (ta := (.ok press)) (t := (fun a : (C_Press × ((Li D) × Unit)) => m_Press_press a.1 a.2.1)) (ts := (.ok ((Li.mk ([other] : List D)), ()))) rfl (ho_Press (show ("press" : Str) ∈ ms_Press by decide +kernel)) (Ev.var rfl) (EvL.cons (α := (Li D)) (A := Unit) (t := (.ok (Li.mk ([other] : List D)))) (ts := (.ok ())) (Ev.lst (ts := (.ok ([other] : List D))) (EvL.listS (t := (.ok other)) (ts := (.ok ([] : List D))) (Ev.var rfl) (EvL.list0 (α := D)))) EvL.nil)) (Sv.nil (c := Ct.nx ()) (.inl rfl) (.same (.same (.same (.same .nil)))))) (Sv.ifdP (c := (decide (call = (2 : Int)))) (Ev.eq (by decide) (t1 := (.ok call)) (t2 := (.ok (2 : Int))) (Ev.var rfl) (Ev.int 2)) (Sv.ex (P := Pv (α := (List Int))) (t1 := (m_Press_fold press other)) (.same (.same (.same (.same .nil)))) (Ev.meth (ta := (.ok press)) (t := (fun a : (C_Press × (D × Unit)) => m_Press_fold a.1 a.2.1)) (ts := (.ok (other, ()))) rfl (ho_Press (show ("fold" : Str) ∈ ms_Press by decide +kernel)) (Ev.var rfl) (EvL.cons (α := D) (A := Unit) (t := (.ok other)) (ts := (.ok ())) (Ev.var rfl) EvL.nil)) (Sv.nil (c := Ct.nx ()) (.inl rfl) (.same (.same (.same (.same .nil)))))) (Sv.ex (P := Pv (α := (List Int))) (t1 := (m_Press_signature press (Li.mk ([other] : List D)))) (.same (.same (.same (.same .nil)))) (Ev.meth (ta := (.ok press)) (t := (fun a : (C_Press × ((Li D) × Unit)) => m_Press_signature a.1 a.2.1)) (ts := (.ok ((Li.mk ([other] : List D)), ()))) rfl (ho_Press (show ("signature" : Str) ∈ ms_Press by decide +kernel)) (Ev.var rfl) (EvL.cons (α := (Li D)) (A := Unit) (t := (.ok (Li.mk ([other] : List D)))) (ts := (.ok ())) (Ev.lst (ts := (.ok ([other] : List D))) (EvL.listS (t := (.ok other)) (ts := (.ok ([] : List D))) (Ev.var rfl) (EvL.list0 (α := D)))) EvL.nil)) (Sv.nil (c := Ct.nx ()) (.inl rfl) (.same (.same (.same (.same .nil))))))))) (Hv.cons (h := (fun x' : XD => ((.ok (.rt true) : Rs (Ct Unit Bool))).only)) (fun a' x' => Sv.onlyI (Sv.retg (t := (.ok true)) Ct.rt .nil (fun _ => rfl) (Ev.bl true))) (fun _ => Rs.only_only) .nil) (fun s => Sv.ret (t := (.ok false)) .nil (fun _ => rfl) (Ev.bl false))
def c_MOST_WIDTH : Int := (64 : Int)
def m_Press___init__ (width : D) (taps : D) : Rs C_Press :=
  (((m_is_integer width (1 : Int) c_MOST_WIDTH).bind fun z4 => .ok (!z4)).bind fun z5 => if z5 then .ok true else (((isT .tuple taps).bind fun z2 => .ok (!z2)).bind fun z3 => if z3 then .ok true else (((Rs.of (Dn.dn (α := (List D)) taps)).map Tc.d).bind fun z1 => dEq z1 (Tc.d ([] : List D))))).bind fun z26 =>
  if z26 then
    .ex ("BadSignature", [])
  else
    ((Rs.of (Dn.dn (α := (List D)) taps)).bind fun z6 => .ok (enumF 0 z6)).bind fun z25 => (Rs.fold (fun (s : Unit) (p7 : (T2 Int D)) =>
      let index := p7.a
      let tap := p7.b
      ((((((((Rs.of (Dn.dn (α := Int) width)).bind fun z12 => .ok (z12 - (1 : Int))).bind fun z13 => .ok (z13, ())).bind fun z14 => .ok ((0 : Int), z14)).bind fun z15 => .ok (tap, z15)).bind fun z16 => m_is_integer (z16.1) (z16.2.1) (z16.2.2.1)).bind fun z17 => .ok (!z17)).bind fun z18 => if z18 then .ok true else (if (decide (index > (0 : Int))) then ((Rs.of (Dn.dn (α := Int) tap)).bind fun z10 => (((Rs.of (Dn.dn (α := (List D)) taps)).bind fun z8 => ixR z8 (index - (1 : Int))).bind fun z9 => Rs.of (Dn.dn (α := Int) z9)).bind fun z11 => .ok (decide (z10 ≤ z11))) else .ok false)).bind fun z19 =>
      if z19 then
        .ex ("BadSignature", [])
      else
        .ok ()) z25 ()).bind fun s =>
    (((Rs.of (Dn.dn (α := (List D)) taps)).bind fun z20 => ixR z20 (-(1 : Int))).bind fun z22 => (((Rs.of (Dn.dn (α := Int) width)).bind fun z21 => .ok (z21 - (1 : Int))).map Tc.d).bind fun z23 => dNe z22 z23).bind fun z24 =>
    if z24 then
      .ex ("BadSignature", [])
    else
      (Rs.of (Dn.dn (α := Int) width)).bind fun f_width =>
      (Rs.of (Dn.dn (α := (List Int)) taps)).bind fun f_taps =>
      .ok (C_Press.mk f_width f_taps)
abbrev sp_Press___init__ : SpD := spI "Press" (A := (D × (D × Unit))) fun a => m_Press___init__ a.1 a.2.1
abbrev N_Press___init__ : List Str := ["self", "width", "taps", "index", "tap"]
def b_Press___init__ : SL := (.cons (.ifs (.or (.not (.call 0 (.cons (.var 1) (.cons (.int 1) (.cons (.cst 0) .nil))))) (.or (.not (.isi (.var 2) .tuple)) (.cmp .Eq (.var 2) (.tup .nil)))) (.cons (.raise 0 .nil) .nil) .nil) (.cons (.for (.tup (.cons (.v 3) (.cons (.v 4) .nil))) (.enum (.var 2)) (.cons (.ifs (.or (.not (.call 0 (.cons (.var 4) (.cons (.int 0) (.cons (.bin false .Sub (.var 1) (.int 1)) .nil))))) (.and (.cmp .Gt (.var 3) (.int 0)) (.cmp .LtE (.var 4) (.ix (.var 2) (.bin false .Sub (.var 3) (.int 1)))))) (.cons (.raise 0 .nil) .nil) .nil) .nil)) (.cons (.ifs (.cmp .NotEq (.ix (.var 2) (.neg (.int 1))) (.bin false .Sub (.var 1) (.int 1))) (.cons (.raise 0 .nil) .nil) .nil) (.cons (.asg (.att (.var 0) "width") (.var 1)) (.cons (.asg (.att (.var 0) "taps") (.var 2)) .nil)))))
abbrev nm_Press___init__ : Nm := { fn := ["is_integer"], cst := ["MOST_WIDTH"], exc := ["BadSignature"] }
abbrev G_Press___init__ : Gam := { fn := [(3, sp_is_integer)], cst := [Tc.d c_MOST_WIDTH], exc := [("BadSignature", [])], fl := [("Press", "taps"), ("Press", "width")] }
theorem wp_Press___init__ : ∀ ds M R RX, ds.length = 3 → sp_Press___init__ ds M R RX → wpSs G_Press___init__ (fun x _ M => RX x M) b_Press___init__ ⟨fun _ M => R .non M, R, fun _ _ => False, fun _ _ => False⟩ (startD N_Press___init__ ds) M :=
  fn_wpI (A := (D × (D × Unit))) (k := 2) ob_Press (fun _ => rfl) (fun a => [.mu false (.ins "Press" []), .ar (Ar.P a.1), .ar (Ar.P a.2.1), .junk, .junk]) (fun _ => rfl) (fun _ => rfl) (by decide) fun F a =>
  let width := a.1
  let taps := a.2.1
  Sv.ifd (tc := (((m_is_integer width (1 : Int) c_MOST_WIDTH).bind fun z4 => .ok (!z4)).bind fun z5 => if z5 then .ok true else (((isT .tuple taps).bind fun z2 => .ok (!z2)).bind fun z3 => if z3 then .ok true else (((Rs.of (Dn.dn (α := (List D)) taps)).map Tc.d).bind fun z1 => dEq z1 (Tc.d ([] : List D)))))) .nil (Ev.or (tb := ((m_is_integer width (1 : Int) c_MOST_WIDTH).bind fun z4 => .ok (!z4))) (tc := (((isT .tuple taps).bind fun z2 => .ok (!z2)).bind fun z3 => if z3 then .ok true else (((Rs.of (Dn.dn (α := (List D)) taps)).map Tc.d).bind fun z1 => dEq z1 (Tc.d ([] : List D))))) (Ev.not (tb := (m_is_integer width (1 : Int) c_MOST_WIDTH)) (Ev.call (t := (fun a : (D × (Int × (Int × Unit))) => m_is_integer a.1 a.2.1 a.2.2.1)) (ts := (.ok (width, ((1 : Int), (c_MOST_WIDTH, ()))))) rfl (EvL.cons (α := D) (A := (Int × (Int × Unit))) (t := (.ok width)) (ts := (.ok ((1 : Int), (c_MOST_WIDTH, ())))) (Ev.var rfl) (EvL.cons (α := Int) (A := (Int × Unit)) (t := (.ok (1 : Int))) (ts := (.ok (c_MOST_WIDTH, ()))) (Ev.int 1) (EvL.cons (α := Int) (A := Unit) (t := (.ok c_MOST_WIDTH)) (ts := (.ok ())) (Ev.cst (v := c_MOST_WIDTH) rfl) EvL.nil))))) (Ev.or (tb := ((isT .tuple taps).bind fun z2 => .ok (!z2))) (tc := (((Rs.of (Dn.dn (α := (List D)) taps)).map Tc.d).bind fun z1 => dEq z1 (Tc.d ([] : List D)))) (Ev.not (tb := (isT .tuple taps)) (Ev.isi (T := .tuple) (t := (.ok taps)) (Ev.var rfl))) (Ev.eqD (t1 := ((Rs.of (Dn.dn (α := (List D)) taps)).map Tc.d)) (t2 := (.ok (Tc.d ([] : List D)))) (Ev.dyn (Ev.down (α := (List D)) (t := .ok taps) (Ev.var rfl))) (Ev.dyn (t := .ok ([] : List D)) (Ev.tupL (ts := (.ok ([] : List D))) (EvL.list0 (α := D))))))) (Sv.raise0 rfl .nil) (Sv.for (tl := ((Rs.of (Dn.dn (α := (List D)) taps)).bind fun z6 => .ok (enumF 0 z6))) (s0 := ()) (fun s : Unit => [.mu false (.ins "Press" []), .ar (Pv (width : D)), .ar (Pv (taps : D)), .junk, .junk]) _ (It.enumT (t1 := (Rs.of (Dn.dn (α := (List D)) taps))) (Ev.down (α := (List D)) (t := .ok taps) (Ev.var rfl))) .nil (.same (.same (.same (.junk (.junk .nil))))) (fun s p7 => (Bd.tup rfl rfl (.cons (Bd.v rfl) (.cons (Bd.v rfl) .nil)))) (fun s p7 => (let index := p7.a
  let tap := p7.b
  Sv.ifd (tc := ((((((((Rs.of (Dn.dn (α := Int) width)).bind fun z12 => .ok (z12 - (1 : Int))).bind fun z13 => .ok (z13, ())).bind fun z14 => .ok ((0 : Int), z14)).bind fun z15 => .ok (tap, z15)).bind fun z16 => m_is_integer (z16.1) (z16.2.1) (z16.2.2.1)).bind fun z17 => .ok (!z17)).bind fun z18 => if z18 then .ok true else (if (decide (index > (0 : Int))) then ((Rs.of (Dn.dn (α := Int) tap)).bind fun z10 => (((Rs.of (Dn.dn (α := (List D)) taps)).bind fun z8 => ixR z8 (index - (1 : Int))).bind fun z9 => Rs.of (Dn.dn (α := Int) z9)).bind fun z11 => .ok (decide (z10 ≤ z11))) else .ok false))) .nil (Ev.or (tb := (((((((Rs.of (Dn.dn (α := Int) width)).bind fun z12 => .ok (z12 - (1 : Int))).bind fun z13 => .ok (z13, ())).bind fun z14 => .ok ((0 : Int), z14)).bind fun z15 => .ok (tap, z15)).bind fun z16 => m_is_integer (z16.1) (z16.2.1) (z16.2.2.1)).bind fun z17 => .ok (!z17))) (tc := (if (decide (index > (0 : Int))) then ((Rs.of (Dn.dn (α := Int) tap)).bind fun z10 => (((Rs.of (Dn.dn (α := (List D)) taps)).bind fun z8 => ixR z8 (index - (1 : Int))).bind fun z9 => Rs.of (Dn.dn (α := Int) z9)).bind fun z11 => .ok (decide (z10 ≤ z11))) else .ok false)) (Ev.not (tb := ((((((Rs.of (Dn.dn (α := Int) width)).bind fun z12 => .ok (z12 - (1 : Int))).bind fun z13 => .ok (z13, ())).bind fun z14 => .ok ((0 : Int), z14)).bind fun z15 => .ok (tap, z15)).bind fun z16 => m_is_integer (z16.1) (z16.2.1) (z16.2.2.1))) (Ev.call (t := (fun a : (D × (Int × (Int × Unit))) => m_is_integer a.1 a.2.1 a.2.2.1)) (ts := (((((Rs.of (Dn.dn (α := Int) width)).bind fun z12 => .ok (z12 - (1 : Int))).bind fun z13 => .ok (z13, ())).bind fun z14 => .ok ((0 : Int), z14)).bind fun z15 => .ok (tap, z15))) rfl (EvL.cons (α := D) (A := (Int × (Int × Unit))) (t := (.ok tap)) (ts := ((((Rs.of (Dn.dn (α := Int) width)).bind fun z12 => .ok (z12 - (1 : Int))).bind fun z13 => .ok (z13, ())).bind fun z14 => .ok ((0 : Int), z14))) (Ev.var rfl) (EvL.cons (α := Int) (A := (Int × Unit)) (t := (.ok (0 : Int))) (ts := (((Rs.of (Dn.dn (α := Int) width)).bind fun z12 => .ok (z12 - (1 : Int))).bind fun z13 => .ok (z13, ()))) (Ev.int 0) (EvL.cons (α := Int) (A := Unit) (t := ((Rs.of (Dn.dn (α := Int) width)).bind fun z12 => .ok (z12 - (1 : Int)))) (ts := (.ok ())) (Ev.sub (ti := (Rs.of (Dn.dn (α := Int) width))) (tj := (.ok (1 : Int))) (Ev.down (α := Int) (t := .ok width) (Ev.var rfl)) (Ev.int 1)) EvL.nil))))) (Ev.and (tb := (.ok (decide (index > (0 : Int))))) (tc := ((Rs.of (Dn.dn (α := Int) tap)).bind fun z10 => (((Rs.of (Dn.dn (α := (List D)) taps)).bind fun z8 => ixR z8 (index - (1 : Int))).bind fun z9 => Rs.of (Dn.dn (α := Int) z9)).bind fun z11 => .ok (decide (z10 ≤ z11)))) (Ev.gt (ti := (.ok index)) (tj := (.ok (0 : Int))) (Ev.var rfl) (Ev.int 0)) (Ev.le (ti := (Rs.of (Dn.dn (α := Int) tap))) (tj := (((Rs.of (Dn.dn (α := (List D)) taps)).bind fun z8 => ixR z8 (index - (1 : Int))).bind fun z9 => Rs.of (Dn.dn (α := Int) z9))) (Ev.down (α := Int) (t := .ok tap) (Ev.var rfl)) (Ev.down (α := Int) (Ev.ix (t := (Rs.of (Dn.dn (α := (List D)) taps))) (ti := (.ok (index - (1 : Int)))) (Ev.sTup (t := (Rs.of (Dn.dn (α := (List D)) taps))) (Ev.down (α := (List D)) (t := .ok taps) (Ev.var rfl))) (Ev.sub (ti := (.ok index)) (tj := (.ok (1 : Int))) (Ev.var rfl) (Ev.int 1))))))) (Sv.raise0 rfl .nil) (Sv.nil (c := ()) (.inr rfl) (.same (.same (.same (.junk (.junk .nil)))))))) fun s => (Sv.ifd (tc := (((Rs.of (Dn.dn (α := (List D)) taps)).bind fun z20 => ixR z20 (-(1 : Int))).bind fun z22 => (((Rs.of (Dn.dn (α := Int) width)).bind fun z21 => .ok (z21 - (1 : Int))).map Tc.d).bind fun z23 => dNe z22 z23)) .nil (Ev.neD (t1 := ((Rs.of (Dn.dn (α := (List D)) taps)).bind fun z20 => ixR z20 (-(1 : Int)))) (t2 := (((Rs.of (Dn.dn (α := Int) width)).bind fun z21 => .ok (z21 - (1 : Int))).map Tc.d)) (Ev.ix (t := (Rs.of (Dn.dn (α := (List D)) taps))) (ti := (.ok (-(1 : Int)))) (Ev.sTup (t := (Rs.of (Dn.dn (α := (List D)) taps))) (Ev.down (α := (List D)) (t := .ok taps) (Ev.var rfl))) (Ev.neg (ti := (.ok (1 : Int))) (Ev.int 1))) (Ev.dyn (Ev.sub (ti := (Rs.of (Dn.dn (α := Int) width))) (tj := (.ok (1 : Int))) (Ev.down (α := Int) (t := .ok width) (Ev.var rfl)) (Ev.int 1)))) (Sv.raise0 rfl .nil) (Sv.att (t1 := (Rs.of (Dn.dn (α := Int) width))) rfl (show ([] : List Str).contains "width" = false by decide +kernel) rfl (.tail _ (.head _)) .nil (Ev.down (α := Int) (t := .ok width) (Ev.var rfl)) fun f_width => (Sv.att (t1 := (Rs.of (Dn.dn (α := (List Int)) taps))) rfl (show (["width"] : List Str).contains "taps" = false by decide +kernel) rfl (.head _) .nil (Ev.down (α := (List Int)) (t := .ok taps) (Ev.var rfl)) fun f_taps => (Sv.nil (c := (C_Press.mk f_width f_taps)) (.inl rfl) (.same .nil))))))
def m__law_made (width : D) (taps : D) : Rs String :=
  (((m_Press___init__ width taps).bind fun _ =>
  .ok (.nx ()) : Rs (Ct Unit String)).catchR fun x' => pick subT x' [(("ProbeError" : Str), (fun x' : XD => ((((exiR subT xiT x' "BadSignature").bind fun z1 => if z1 then (.ok ("refused" : String)) else (.ok ("other" : String))).bind fun z2 => .ok (.rt z2) : Rs (Ct Unit String))).only))]).bind fun c => c.el (fun s =>
  (.ok ("made" : String))) (fun v => .ok v) fun _ => .no
abbrev sp__law_made : SpD := sp (A := (D × (D × Unit))) fun a => m__law_made a.1 a.2.1
abbrev N__law_made : List Str := ["width", "taps", "error"]
def b__law_made : SL := (.cons (.try (.cons (.ex (.new true 0 (.cons (.var 0) (.cons (.var 1) .nil)))) .nil) (.cons "ProbeError" (some 2) (.cons (.ret (.ife (.exi 2 "BadSignature") (.str "refused") (.str "other"))) .nil) .nil)) (.cons (.ret (.str "made")) .nil))
abbrev nm__law_made : Nm := { mt := [("Press", "__init__")], hn := ["ProbeError", "BadSignature"] }
abbrev G__law_made : Gam := { mt := [("Press", "__init__", 3, sp_Press___init__)], sub := subT, xi := xiT }
theorem wp__law_made : ∀ ds M R RX, ds.length = 2 → sp__law_made ds M R RX → wpSs (G__law_made) (fun x _ M => RX x M) b__law_made ⟨fun _ M => R .non M, R, fun _ _ => False, fun _ _ => False⟩ (startD N__law_made ds) M :=
  fn_wp (A := (D × (D × Unit))) (k := 1) (fun a => [.ar (Ar.P a.1), .ar (Ar.P a.2.1), .junk]) (fun _ => rfl) (fun _ => rfl) (by decide) fun F a _ =>
  let width := a.1
  let taps := a.2.1
  Sv.try (shx := [.ar (Pv (width : D)), .ar (Pv (taps : D)), .junk]) (σ := Unit) (β := String) (tb := ((m_Press___init__ width taps).bind fun _ =>
  .ok (.nx ()) : Rs (Ct Unit String))) (hs := [(("ProbeError" : Str), (fun x' : XD => ((((exiR subT xiT x' "BadSignature").bind fun z1 => if z1 then (.ok ("refused" : String)) else (.ok ("other" : String))).bind fun z2 => .ok (.rt z2) : Rs (Ct Unit String))).only))]) (lr := (fun v : String => .rt (Pv v))) (t2 := fun s : Unit =>
    (.ok ("made" : String))) (fun s : Unit => [.ar (Pv (width : D)), .ar (Pv (taps : D)), .junk]) (fun v => v) (fun _ => rfl) hp_rt .nil (Sv.ex (P := Pv (α := C_Press)) (t1 := (m_Press___init__ width taps)) (.same (.same (.junk .nil))) (Ev.new (t := (fun a : (D × (D × Unit)) => m_Press___init__ a.1 a.2.1)) (ts := (.ok (width, (taps, ())))) rfl (fun v => ⟨_, rfl⟩) (EvL.cons (α := D) (A := (D × Unit)) (t := (.ok width)) (ts := (.ok (taps, ()))) (Ev.var rfl) (EvL.cons (α := D) (A := Unit) (t := (.ok taps)) (ts := (.ok ())) (Ev.var rfl) EvL.nil))) (Sv.nil (c := Ct.nx ()) (.inl rfl) (.same (.same (.junk .nil))))) (Hv.named (i := 2) (h := (fun x' : XD => ((((exiR subT xiT x' "BadSignature").bind fun z1 => if z1 then (.ok ("refused" : String)) else (.ok ("other" : String))).bind fun z2 => .ok (.rt z2) : Rs (Ct Unit String))).only)) rfl (fun a' x' => Sv.onlyI (Sv.retg (t := ((exiR subT xiT x' "BadSignature").bind fun z1 => if z1 then (.ok ("refused" : String)) else (.ok ("other" : String)))) Ct.rt .nil (fun _ => rfl) (Ev.ife (tc := (exiR subT xiT x' "BadSignature")) (P := Pv (α := String)) (t1 := (.ok ("refused" : String))) (t2 := (.ok ("other" : String))) (Ev.exi (a := a') (x := x') rfl rfl) (Ev.str "refused") (Ev.str "other")))) (fun _ => Rs.only_only) (hlfC hp_rt fun _ => rfl) .nil) (fun s => Sv.ret (t := (.ok ("made" : String))) .nil (fun _ => rfl) (Ev.str "made"))
def m_law_18 (width : Int) (taps : (List Int)) (wrong : (Li (T2 D D))) : Rs Bool :=
  (catLi wrong (Li.mk ([(T2.mk D.non (Tc.d (T1.mk (0 : Int)))), (T2.mk (Tc.d (3 : Int)) (Tc.d (T2.mk true (2 : Int)))), (T2.mk (Tc.d (3 : Int)) D.non), (T2.mk (Tc.d (2 : Int)) (Tc.d (T2.mk (0 : Int) ("1" : String)))), (T2.mk (Tc.d ("3" : String)) (Tc.d (T1.mk (2 : Int))))] : List (T2 D D)))).bind fun wrong =>
  ((m__law_draw Drw.mk (wrong.l.length : Int)).bind fun z53 => ixR wrong.l z53).bind fun u54 =>
  let width := u54.a
  let taps := u54.b
  (((m__law_made width taps).bind fun z58 => .ok (decide (z58 = ("refused" : String)))).bind fun z59 => if z59 then (((m__law_made (Tc.d (64 : Int)) (Tc.d (T1.mk (63 : Int)))).bind fun z56 => .ok (decide (z56 = ("made" : String)))).bind fun z57 => if z57 then ((m__law_made (Tc.d (1 : Int)) (Tc.d (T1.mk (0 : Int)))).bind fun z55 => .ok (decide (z55 = ("made" : String)))) else .ok false) else .ok false)
def m_law_16 (width : Int) (taps : (List Int)) (press : C_Press) (state : (List Int)) (odd : D) : Rs Bool :=
  (((m__law_refused press (2 : Int) (Tc.d state) odd).bind fun z51 => .ok (!z51)).bind fun z52 => if z52 then .ok true else ((m__law_refused press (3 : Int) (Tc.d state) odd).bind fun z50 => .ok (!z50))).bind fun z60 =>
  if z60 then
    (.ok false)
  else
    let wrong := (Li.mk ([(T2.mk (Tc.d (0 : Int)) (Tc.d (T1.mk (0 : Int)))), (T2.mk (Tc.d (65 : Int)) (Tc.d (T1.mk (64 : Int)))), (T2.mk (Tc.d true) (Tc.d (T1.mk (0 : Int)))), (T2.mk (Tc.d (3 : Int)) (Tc.d ([] : List Int))), (T2.mk (Tc.d (3 : Int)) (Tc.d (T2.mk (0 : Int) (1 : Int)))), (T2.mk (Tc.d (3 : Int)) (Tc.d (T2.mk (2 : Int) (2 : Int)))), (T2.mk (Tc.d (3 : Int)) (Tc.d (T3.mk (1 : Int) (0 : Int) (2 : Int)))), (T2.mk (Tc.d (3 : Int)) (Tc.d (T2.mk (0 : Int) (3 : Int)))), (T2.mk (Tc.d (3 : Int)) (Tc.d (Li.mk ([(2 : Int)] : List Int)))), (T2.mk (Tc.d (3 : Int)) (Tc.d (T2.mk (-(1 : Int)) (2 : Int))))] : List (T2 D D)))
    m_law_18 width taps wrong
def m_law_14 (width : Int) (taps : (List Int)) (press : C_Press) (state : (List Int)) (word : (List Int)) (bad : D) : Rs Bool :=
  (((m__law_refused press (0 : Int) (Tc.d state) bad).bind fun z47 => .ok (!z47)).bind fun z48 => if z48 then .ok true else (((m__law_refused press (0 : Int) bad (Tc.d word)).bind fun z45 => .ok (!z45)).bind fun z46 => if z46 then .ok true else ((m__law_refused press (1 : Int) (Tc.d state) bad).bind fun z44 => .ok (!z44)))).bind fun z61 =>
  if z61 then
    (.ok false)
  else
    ((m__law_draw Drw.mk (6 : Int)).bind fun z49 => ixR ((Li.mk ([(Tc.d (T2.mk (0 : Int) (2 : Int))), (Tc.d (T1.mk true)), (Tc.d (Li.mk ([(0 : Int), (1 : Int)] : List Int))), D.non, (Tc.d ("01" : String)), (Tc.d (T2.mk (0 : Int) D.non))] : List D)).l) z49).bind fun odd =>
    m_law_16 width taps press state odd
def m_law_12 (width : Int) (taps : (List Int)) (press : C_Press) (state : (List Int)) (word : (List Int)) (table : (Li (List Int))) (folded : (Li (List Int))) : Rs Bool :=
  (((m_Press_signature press (Li.mk (table.l.map Tc.d))).bind fun z21 => (m__law_signature width taps folded).bind fun z22 => .ok (decide (z21 = z22))).bind fun z23 => .ok (!z23)).bind fun z62 =>
  if z62 then
    (.ok false)
  else
    ((((((catR word ([(0 : Int)] : List Int)).map Tc.d).bind fun z39 => ((((((catR (cutD word none (some (-(1 : Int)))) ([(2 : Int)] : List Int)).map Tc.d).bind fun z34 => (((catR ((cutD word none (some (-(1 : Int)))).map Tc.d) ([(Tc.d true)] : List D)).map Tc.d).bind fun z33 => .ok (z33 :: ([] : List D))).bind fun z35 => .ok (z34 :: z35)).bind fun z36 => .ok (D.non :: z36)).bind fun z37 => .ok ((Tc.d (Li.mk word)) :: z37)).bind fun z38 => .ok ((Tc.d (cutD word none (some (-(1 : Int))))) :: z38)).bind fun z40 => .ok (z39 :: z40)).bind fun z41 => .ok (Li.mk z41)).map Li.l).bind fun z42 => (m__law_draw Drw.mk (6 : Int)).bind fun z43 => ixR z42 z43).bind fun bad =>
    m_law_14 width taps press state word bad
def m_law_9 (width : Int) (taps : (List Int)) (press : C_Press) (state : (List Int)) (word : (List Int)) (words : (Li (List Int))) (table : (Li (List Int))) : Rs Bool :=
  (((m_Press_press press (Li.mk (words.l.map Tc.d))).bind fun z16 => (m__law_signature width taps words).bind fun z17 => .ok (decide (z16 = z17))).bind fun z18 => .ok (!z18)).bind fun z64 =>
  if z64 then
    (.ok false)
  else
    ((Rs.mapR (fun row : (List Int) => (m__law_fold width row)) table.l).bind fun ys => .ok (Li.mk ys)).bind fun folded =>
    ((((Rs.mapR (fun row : (List Int) => (m_Press_fold press (Tc.d row))) table.l).bind fun ys => .ok (Li.mk ys)).bind fun z19 => .ok (decide (z19 = folded))).bind fun z20 => .ok (!z20)).bind fun z63 =>
    if z63 then
      (.ok false)
    else
      m_law_12 width taps press state word table folded
def m_law_6 (width : Int) (taps : (List Int)) (press : C_Press) (state : (List Int)) (word : (List Int)) : Rs Bool :=
  (((m__law_draw Drw.mk (21 : Int)).bind fun z6 => rangeR z6).bind fun z7 => (Rs.mapR (fun k' : Int => (m__law_bits_of Drw.mk width)) z7).bind fun ys => .ok (Li.mk ys)).bind fun words =>
  (((m__law_draw Drw.mk (11 : Int)).bind fun z8 => rangeR z8).bind fun z12 => (Rs.mapR (fun k' : Int => ((((m__law_draw Drw.mk ((3 * width) + (1 : Int))).bind fun z9 => .ok (z9, ())).bind fun z10 => .ok (Drw.mk, z10)).bind fun z11 => m__law_bits_of (z11.1) (z11.2.1))) z12).bind fun ys => .ok (Li.mk ys)).bind fun table =>
  (((m_Press_step press (Tc.d state) (Tc.d word)).bind fun z13 => (m__law_after width taps state word).bind fun z14 => .ok (decide (z13 = z14))).bind fun z15 => .ok (!z15)).bind fun z65 =>
  if z65 then
    (.ok false)
  else
    m_law_9 width taps press state word words table
def m_law (script : (Fl Int)) : Rs Bool :=
  (((((m__law_draw Drw.mk (2 : Int)).bind fun z1 => ixR ((Li.mk ([(8 : Int), (64 : Int)] : List Int)).l) z1).bind fun z2 => .ok (z2, ())).bind fun z3 => .ok (Drw.mk, z3)).bind fun z4 => m__law_press (z4.1) (z4.2.1)).bind fun u5 =>
  let width := u5.a
  let taps := u5.b
  (m_Press___init__ (Tc.d width) (Tc.d taps)).bind fun press =>
  if (!(decide ((T2.mk press.width press.taps) = (T2.mk width taps)))) then
    (.ok false)
  else
    (m__law_bits_of Drw.mk width).bind fun state =>
    (m__law_bits_of Drw.mk width).bind fun word =>
    m_law_6 width taps press state word
abbrev sp_law : SpD := sp (A := ((Fl Int) × Unit)) fun a => m_law a.1
abbrev N_law : List Str := ["script", "draws", "width", "taps", "press", "state", "word", "words", "table", "folded", "bad", "odd", "wrong", "k", "row"]
def b_law_18 : SL := (.cons (.asg (.v 12) (.bin false .Add (.var 12) (.lst false (.cons (.tup (.cons .non (.cons (.tup (.cons (.int 0) .nil)) .nil))) (.cons (.tup (.cons (.int 3) (.cons (.tup (.cons (.bl true) (.cons (.int 2) .nil))) .nil))) (.cons (.tup (.cons (.int 3) (.cons .non .nil))) (.cons (.tup (.cons (.int 2) (.cons (.tup (.cons (.int 0) (.cons (.str "1") .nil))) .nil))) (.cons (.tup (.cons (.str "3") (.cons (.tup (.cons (.int 2) .nil)) .nil))) .nil)))))))) (.cons (.asg (.tup (.cons (.v 2) (.cons (.v 3) .nil))) (.ix (.var 12) (.call 2 (.cons (.var 1) (.cons (.blt false .len (.cons (.var 12) .nil)) .nil))))) (.cons (.ret (.and (.cmp .Eq (.call 9 (.cons (.var 2) (.cons (.var 3) .nil))) (.str "refused")) (.and (.cmp .Eq (.call 9 (.cons (.int 64) (.cons (.tup (.cons (.int 63) .nil)) .nil))) (.str "made")) (.cmp .Eq (.call 9 (.cons (.int 1) (.cons (.tup (.cons (.int 0) .nil)) .nil))) (.str "made"))))) .nil)))
def b_law_16 : SL := (.cons (.ifs (.or (.not (.call 8 (.cons (.var 4) (.cons (.int 2) (.cons (.var 5) (.cons (.var 11) .nil)))))) (.not (.call 8 (.cons (.var 4) (.cons (.int 3) (.cons (.var 5) (.cons (.var 11) .nil))))))) (.cons (.ret (.bl false)) .nil) .nil) (.cons (.asg (.v 12) (.lst false (.cons (.tup (.cons (.int 0) (.cons (.tup (.cons (.int 0) .nil)) .nil))) (.cons (.tup (.cons (.int 65) (.cons (.tup (.cons (.int 64) .nil)) .nil))) (.cons (.tup (.cons (.bl true) (.cons (.tup (.cons (.int 0) .nil)) .nil))) (.cons (.tup (.cons (.int 3) (.cons (.tup .nil) .nil))) (.cons (.tup (.cons (.int 3) (.cons (.tup (.cons (.int 0) (.cons (.int 1) .nil))) .nil))) (.cons (.tup (.cons (.int 3) (.cons (.tup (.cons (.int 2) (.cons (.int 2) .nil))) .nil))) (.cons (.tup (.cons (.int 3) (.cons (.tup (.cons (.int 1) (.cons (.int 0) (.cons (.int 2) .nil)))) .nil))) (.cons (.tup (.cons (.int 3) (.cons (.tup (.cons (.int 0) (.cons (.int 3) .nil))) .nil))) (.cons (.tup (.cons (.int 3) (.cons (.lst false (.cons (.int 2) .nil)) .nil))) (.cons (.tup (.cons (.int 3) (.cons (.tup (.cons (.neg (.int 1)) (.cons (.int 2) .nil))) .nil))) .nil)))))))))))) b_law_18))
def b_law_14 : SL := (.cons (.ifs (.or (.not (.call 8 (.cons (.var 4) (.cons (.int 0) (.cons (.var 5) (.cons (.var 10) .nil)))))) (.or (.not (.call 8 (.cons (.var 4) (.cons (.int 0) (.cons (.var 10) (.cons (.var 6) .nil)))))) (.not (.call 8 (.cons (.var 4) (.cons (.int 1) (.cons (.var 5) (.cons (.var 10) .nil)))))))) (.cons (.ret (.bl false)) .nil) .nil) (.cons (.asg (.v 11) (.ix (.lst false (.cons (.tup (.cons (.int 0) (.cons (.int 2) .nil))) (.cons (.tup (.cons (.bl true) .nil)) (.cons (.lst false (.cons (.int 0) (.cons (.int 1) .nil))) (.cons .non (.cons (.str "01") (.cons (.tup (.cons (.int 0) (.cons .non .nil))) .nil))))))) (.call 2 (.cons (.var 1) (.cons (.int 6) .nil))))) b_law_16))
def b_law_12 : SL := (.cons (.ifs (.not (.call 3 (.cons (.meth 4 (.var 4) (.cons (.var 8) .nil)) (.cons (.call 6 (.cons (.var 2) (.cons (.var 3) (.cons (.var 9) .nil)))) .nil)))) (.cons (.ret (.bl false)) .nil) .nil) (.cons (.asg (.v 10) (.ix (.lst false (.cons (.bin false .Add (.var 6) (.tup (.cons (.int 0) .nil))) (.cons (.sl false (.var 6) .none (.some (.neg (.int 1)))) (.cons (.bty false .list (.cons (.var 6) .nil)) (.cons .non (.cons (.bin false .Add (.sl false (.var 6) .none (.some (.neg (.int 1)))) (.tup (.cons (.int 2) .nil))) (.cons (.bin false .Add (.sl false (.var 6) .none (.some (.neg (.int 1)))) (.tup (.cons (.bl true) .nil))) .nil))))))) (.call 2 (.cons (.var 1) (.cons (.int 6) .nil))))) b_law_14))
def b_law_9 : SL := (.cons (.ifs (.not (.call 3 (.cons (.meth 2 (.var 4) (.cons (.var 7) .nil)) (.cons (.call 6 (.cons (.var 2) (.cons (.var 3) (.cons (.var 7) .nil)))) .nil)))) (.cons (.ret (.bl false)) .nil) .nil) (.cons (.asgc 9 (.lc false [("row", 14)] (.call 7 (.cons (.var 2) (.cons (.var 14) .nil))) (.v 14) (.seq (.var 8)) .none)) (.cons (.ifs (.not (.call 3 (.cons (.lc false [("row", 14)] (.meth 3 (.var 4) (.cons (.var 14) .nil)) (.v 14) (.seq (.var 8)) .none) (.cons (.var 9) .nil)))) (.cons (.ret (.bl false)) .nil) .nil) b_law_12)))
def b_law_6 : SL := (.cons (.asgc 7 (.lc false [("k", 13)] (.call 4 (.cons (.var 1) (.cons (.var 2) .nil))) (.v 13) (.rng1 (.call 2 (.cons (.var 1) (.cons (.int 21) .nil)))) .none)) (.cons (.asgc 8 (.lc false [("k", 13)] (.call 4 (.cons (.var 1) (.cons (.call 2 (.cons (.var 1) (.cons (.bin false .Add (.bin false .Mult (.int 3) (.var 2)) (.int 1)) .nil))) .nil))) (.v 13) (.rng1 (.call 2 (.cons (.var 1) (.cons (.int 11) .nil)))) .none)) (.cons (.ifs (.not (.call 3 (.cons (.meth 1 (.var 4) (.cons (.var 5) (.cons (.var 6) .nil))) (.cons (.call 5 (.cons (.var 2) (.cons (.var 3) (.cons (.var 5) (.cons (.var 6) .nil))))) .nil)))) (.cons (.ret (.bl false)) .nil) .nil) b_law_9)))
def r_law : SL := (.cons (.asg (.tup (.cons (.v 2) (.cons (.v 3) .nil))) (.call 1 (.cons (.var 1) (.cons (.ix (.lst false (.cons (.int 8) (.cons (.int 64) .nil))) (.call 2 (.cons (.var 1) (.cons (.int 2) .nil)))) .nil)))) (.cons (.asg (.v 4) (.new true 0 (.cons (.var 2) (.cons (.var 3) .nil)))) (.cons (.ifs (.not (.call 3 (.cons (.tup (.cons (.fld (.var 4) "width") (.cons (.fld (.var 4) "taps") .nil))) (.cons (.tup (.cons (.var 2) (.cons (.var 3) .nil))) .nil)))) (.cons (.ret (.bl false)) .nil) .nil) (.cons (.asg (.v 5) (.call 4 (.cons (.var 1) (.cons (.var 2) .nil)))) (.cons (.asg (.v 6) (.call 4 (.cons (.var 1) (.cons (.var 2) .nil)))) b_law_6)))))
def b_law : SL := (.cons (.asg (.v 1) (.call 0 (.cons (.var 0) .nil))) r_law)
abbrev nm_law : Nm := { fn := ["_law_draws", "_law_press", "_law_draw", "_law_same", "_law_bits_of", "_law_after", "_law_signature", "_law_fold", "_law_refused", "_law_made"], mt := [("Press", "__init__"), ("Press", "step"), ("Press", "press"), ("Press", "fold"), ("Press", "signature")] }
abbrev G_law : Gam := { fn := [(1, sp__law_draws), (2, sp__law_press), (2, sp__law_draw), (2, sp__law_same 10), (2, sp__law_bits_of), (4, sp__law_after), (3, sp__law_signature), (2, sp__law_fold), (4, sp__law_refused), (2, sp__law_made)], mt := [("Press", "__init__", 3, sp_Press___init__), ("Press", "step", 3, sp_Press_step), ("Press", "press", 2, sp_Press_press), ("Press", "fold", 2, sp_Press_fold), ("Press", "signature", 2, sp_Press_signature)], fl := [("Press", "width"), ("Press", "taps")] }
theorem wp_law_18 (F : Fr) (width : Int) (taps : (List Int)) (wrong : (Li (T2 D D))) : Sv G_law F [] b_law_18 [.junk, .ar (Ar.P Drw.mk), .ar (Pv (width : Int)), .ar (Pv (taps : (List Int))), .junk, .junk, .junk, .junk, .junk, .junk, .junk, .junk, .ar (Pv (wrong : (Li (T2 D D)))), .junk, .junk] (m_law_18 width taps wrong) (fun v : Bool => .rt (Pv v)) :=
  Sv.bnd (t1 := (catLi wrong (Li.mk ([(T2.mk D.non (Tc.d (T1.mk (0 : Int)))), (T2.mk (Tc.d (3 : Int)) (Tc.d (T2.mk true (2 : Int)))), (T2.mk (Tc.d (3 : Int)) D.non), (T2.mk (Tc.d (2 : Int)) (Tc.d (T2.mk (0 : Int) ("1" : String)))), (T2.mk (Tc.d ("3" : String)) (Tc.d (T1.mk (2 : Int))))] : List (T2 D D))))) rfl .nil (Ev.catL (t1 := (.ok wrong)) (t2 := (.ok (Li.mk ([(T2.mk D.non (Tc.d (T1.mk (0 : Int)))), (T2.mk (Tc.d (3 : Int)) (Tc.d (T2.mk true (2 : Int)))), (T2.mk (Tc.d (3 : Int)) D.non), (T2.mk (Tc.d (2 : Int)) (Tc.d (T2.mk (0 : Int) ("1" : String)))), (T2.mk (Tc.d ("3" : String)) (Tc.d (T1.mk (2 : Int))))] : List (T2 D D))))) (Ev.var rfl) (Ev.lst (ts := (.ok ([(T2.mk D.non (Tc.d (T1.mk (0 : Int)))), (T2.mk (Tc.d (3 : Int)) (Tc.d (T2.mk true (2 : Int)))), (T2.mk (Tc.d (3 : Int)) D.non), (T2.mk (Tc.d (2 : Int)) (Tc.d (T2.mk (0 : Int) ("1" : String)))), (T2.mk (Tc.d ("3" : String)) (Tc.d (T1.mk (2 : Int))))] : List (T2 D D)))) (EvL.listS (t := (.ok (T2.mk D.non (Tc.d (T1.mk (0 : Int)))))) (ts := (.ok ((T2.mk (Tc.d (3 : Int)) (Tc.d (T2.mk true (2 : Int)))) :: ((T2.mk (Tc.d (3 : Int)) D.non) :: ((T2.mk (Tc.d (2 : Int)) (Tc.d (T2.mk (0 : Int) ("1" : String)))) :: ((T2.mk (Tc.d ("3" : String)) (Tc.d (T1.mk (2 : Int)))) :: ([] : List (T2 D D)))))))) (Ev.t2 (t1 := (.ok D.non)) (t2 := (.ok (Tc.d (T1.mk (0 : Int))))) Ev.nonD (Ev.dyn (t := .ok (T1.mk (0 : Int))) (Ev.t1 (t1 := (.ok (0 : Int))) (Ev.int 0)))) (EvL.listS (t := (.ok (T2.mk (Tc.d (3 : Int)) (Tc.d (T2.mk true (2 : Int)))))) (ts := (.ok ((T2.mk (Tc.d (3 : Int)) D.non) :: ((T2.mk (Tc.d (2 : Int)) (Tc.d (T2.mk (0 : Int) ("1" : String)))) :: ((T2.mk (Tc.d ("3" : String)) (Tc.d (T1.mk (2 : Int)))) :: ([] : List (T2 D D))))))) (Ev.t2 (t1 := (.ok (Tc.d (3 : Int)))) (t2 := (.ok (Tc.d (T2.mk true (2 : Int))))) (Ev.dyn (t := .ok (3 : Int)) (Ev.int 3)) (Ev.dyn (t := .ok (T2.mk true (2 : Int))) (Ev.t2 (t1 := (.ok true)) (t2 := (.ok (2 : Int))) (Ev.bl true) (Ev.int 2)))) (EvL.listS (t := (.ok (T2.mk (Tc.d (3 : Int)) D.non))) (ts := (.ok ((T2.mk (Tc.d (2 : Int)) (Tc.d (T2.mk (0 : Int) ("1" : String)))) :: ((T2.mk (Tc.d ("3" : String)) (Tc.d (T1.mk (2 : Int)))) :: ([] : List (T2 D D)))))) (Ev.t2 (t1 := (.ok (Tc.d (3 : Int)))) (t2 := (.ok D.non)) (Ev.dyn (t := .ok (3 : Int)) (Ev.int 3)) Ev.nonD) (EvL.listS (t := (.ok (T2.mk (Tc.d (2 : Int)) (Tc.d (T2.mk (0 : Int) ("1" : String)))))) (ts := (.ok ((T2.mk (Tc.d ("3" : String)) (Tc.d (T1.mk (2 : Int)))) :: ([] : List (T2 D D))))) (Ev.t2 (t1 := (.ok (Tc.d (2 : Int)))) (t2 := (.ok (Tc.d (T2.mk (0 : Int) ("1" : String))))) (Ev.dyn (t := .ok (2 : Int)) (Ev.int 2)) (Ev.dyn (t := .ok (T2.mk (0 : Int) ("1" : String))) (Ev.t2 (t1 := (.ok (0 : Int))) (t2 := (.ok ("1" : String))) (Ev.int 0) (Ev.str "1")))) (EvL.listS (t := (.ok (T2.mk (Tc.d ("3" : String)) (Tc.d (T1.mk (2 : Int)))))) (ts := (.ok ([] : List (T2 D D)))) (Ev.t2 (t1 := (.ok (Tc.d ("3" : String)))) (t2 := (.ok (Tc.d (T1.mk (2 : Int))))) (Ev.dyn (t := .ok ("3" : String)) (Ev.str "3")) (Ev.dyn (t := .ok (T1.mk (2 : Int))) (Ev.t1 (t1 := (.ok (2 : Int))) (Ev.int 2)))) (EvL.list0 (α := (T2 D D)))))))))) fun wrong => (Sv.tup (t1 := ((m__law_draw Drw.mk (wrong.l.length : Int)).bind fun z53 => ixR wrong.l z53)) .nil (Ev.ix (t := (.ok wrong.l)) (ti := (m__law_draw Drw.mk (wrong.l.length : Int))) (Ev.sLs (t := (.ok wrong.l)) (Ev.lLi (t := (.ok wrong)) (Ev.var rfl))) (Ev.call (t := (fun a : (Drw × (Int × Unit)) => m__law_draw a.1 a.2.1)) (ts := (.ok (Drw.mk, ((wrong.l.length : Int), ())))) rfl (EvL.cons (α := Drw) (A := (Int × Unit)) (t := (.ok Drw.mk)) (ts := (.ok ((wrong.l.length : Int), ()))) (Ev.var rfl) (EvL.cons (α := Int) (A := Unit) (t := (.ok (wrong.l.length : Int))) (ts := (.ok ())) (Ev.len (t := (.ok wrong.l)) (Ev.sLs (t := (.ok wrong.l)) (Ev.lLi (t := (.ok wrong)) (Ev.var rfl)))) EvL.nil)))) (fun u54 => (Bd.tup rfl rfl (.cons (Bd.v rfl) (.cons (Bd.v rfl) .nil)))) fun u54 => (let width := u54.a
  let taps := u54.b
  Sv.ret (t := (((m__law_made width taps).bind fun z58 => .ok (decide (z58 = ("refused" : String)))).bind fun z59 => if z59 then (((m__law_made (Tc.d (64 : Int)) (Tc.d (T1.mk (63 : Int)))).bind fun z56 => .ok (decide (z56 = ("made" : String)))).bind fun z57 => if z57 then ((m__law_made (Tc.d (1 : Int)) (Tc.d (T1.mk (0 : Int)))).bind fun z55 => .ok (decide (z55 = ("made" : String)))) else .ok false) else .ok false)) .nil (fun _ => rfl) (Ev.and (tb := ((m__law_made width taps).bind fun z58 => .ok (decide (z58 = ("refused" : String))))) (tc := (((m__law_made (Tc.d (64 : Int)) (Tc.d (T1.mk (63 : Int)))).bind fun z56 => .ok (decide (z56 = ("made" : String)))).bind fun z57 => if z57 then ((m__law_made (Tc.d (1 : Int)) (Tc.d (T1.mk (0 : Int)))).bind fun z55 => .ok (decide (z55 = ("made" : String)))) else .ok false)) (Ev.eq (by decide) (t1 := (m__law_made width taps)) (t2 := (.ok ("refused" : String))) (Ev.call (t := (fun a : (D × (D × Unit)) => m__law_made a.1 a.2.1)) (ts := (.ok (width, (taps, ())))) rfl (EvL.cons (α := D) (A := (D × Unit)) (t := (.ok width)) (ts := (.ok (taps, ()))) (Ev.var rfl) (EvL.cons (α := D) (A := Unit) (t := (.ok taps)) (ts := (.ok ())) (Ev.var rfl) EvL.nil))) (Ev.str "refused")) (Ev.and (tb := ((m__law_made (Tc.d (64 : Int)) (Tc.d (T1.mk (63 : Int)))).bind fun z56 => .ok (decide (z56 = ("made" : String))))) (tc := ((m__law_made (Tc.d (1 : Int)) (Tc.d (T1.mk (0 : Int)))).bind fun z55 => .ok (decide (z55 = ("made" : String))))) (Ev.eq (by decide) (t1 := (m__law_made (Tc.d (64 : Int)) (Tc.d (T1.mk (63 : Int))))) (t2 := (.ok ("made" : String))) (Ev.call (t := (fun a : (D × (D × Unit)) => m__law_made a.1 a.2.1)) (ts := (.ok ((Tc.d (64 : Int)), ((Tc.d (T1.mk (63 : Int))), ())))) rfl (EvL.cons (α := D) (A := (D × Unit)) (t := (.ok (Tc.d (64 : Int)))) (ts := (.ok ((Tc.d (T1.mk (63 : Int))), ()))) (Ev.dyn (t := .ok (64 : Int)) (Ev.int 64)) (EvL.cons (α := D) (A := Unit) (t := (.ok (Tc.d (T1.mk (63 : Int))))) (ts := (.ok ())) (Ev.dyn (t := .ok (T1.mk (63 : Int))) (Ev.t1 (t1 := (.ok (63 : Int))) (Ev.int 63))) EvL.nil))) (Ev.str "made")) (Ev.eq (by decide) (t1 := (m__law_made (Tc.d (1 : Int)) (Tc.d (T1.mk (0 : Int))))) (t2 := (.ok ("made" : String))) (Ev.call (t := (fun a : (D × (D × Unit)) => m__law_made a.1 a.2.1)) (ts := (.ok ((Tc.d (1 : Int)), ((Tc.d (T1.mk (0 : Int))), ())))) rfl (EvL.cons (α := D) (A := (D × Unit)) (t := (.ok (Tc.d (1 : Int)))) (ts := (.ok ((Tc.d (T1.mk (0 : Int))), ()))) (Ev.dyn (t := .ok (1 : Int)) (Ev.int 1)) (EvL.cons (α := D) (A := Unit) (t := (.ok (Tc.d (T1.mk (0 : Int))))) (ts := (.ok ())) (Ev.dyn (t := .ok (T1.mk (0 : Int))) (Ev.t1 (t1 := (.ok (0 : Int))) (Ev.int 0))) EvL.nil))) (Ev.str "made"))))))
theorem wp_law_16 (F : Fr) (width : Int) (taps : (List Int)) (press : C_Press) (state : (List Int)) (odd : D) : Sv G_law F [] b_law_16 [.junk, .ar (Ar.P Drw.mk), .ar (Pv (width : Int)), .ar (Pv (taps : (List Int))), .ar (Pv (press : C_Press)), .ar (Pv (state : (List Int))), .junk, .junk, .junk, .junk, .junk, .ar (Pv (odd : D)), .junk, .junk, .junk] (m_law_16 width taps press state odd) (fun v : Bool => .rt (Pv v)) :=
  Sv.ifd (tc := (((m__law_refused press (2 : Int) (Tc.d state) odd).bind fun z51 => .ok (!z51)).bind fun z52 => if z52 then .ok true else ((m__law_refused press (3 : Int) (Tc.d state) odd).bind fun z50 => .ok (!z50)))) .nil (Ev.or (tb := ((m__law_refused press (2 : Int) (Tc.d state) odd).bind fun z51 => .ok (!z51))) (tc := ((m__law_refused press (3 : Int) (Tc.d state) odd).bind fun z50 => .ok (!z50))) (Ev.not (tb := (m__law_refused press (2 : Int) (Tc.d state) odd)) (Ev.call (t := (fun a : (C_Press × (Int × (D × (D × Unit)))) => m__law_refused a.1 a.2.1 a.2.2.1 a.2.2.2.1)) (ts := (.ok (press, ((2 : Int), ((Tc.d state), (odd, ())))))) rfl (EvL.cons (α := C_Press) (A := (Int × (D × (D × Unit)))) (t := (.ok press)) (ts := (.ok ((2 : Int), ((Tc.d state), (odd, ()))))) (Ev.var rfl) (EvL.cons (α := Int) (A := (D × (D × Unit))) (t := (.ok (2 : Int))) (ts := (.ok ((Tc.d state), (odd, ())))) (Ev.int 2) (EvL.cons (α := D) (A := (D × Unit)) (t := (.ok (Tc.d state))) (ts := (.ok (odd, ()))) (Ev.dyn (t := .ok state) (Ev.var rfl)) (EvL.cons (α := D) (A := Unit) (t := (.ok odd)) (ts := (.ok ())) (Ev.var rfl) EvL.nil)))))) (Ev.not (tb := (m__law_refused press (3 : Int) (Tc.d state) odd)) (Ev.call (t := (fun a : (C_Press × (Int × (D × (D × Unit)))) => m__law_refused a.1 a.2.1 a.2.2.1 a.2.2.2.1)) (ts := (.ok (press, ((3 : Int), ((Tc.d state), (odd, ())))))) rfl (EvL.cons (α := C_Press) (A := (Int × (D × (D × Unit)))) (t := (.ok press)) (ts := (.ok ((3 : Int), ((Tc.d state), (odd, ()))))) (Ev.var rfl) (EvL.cons (α := Int) (A := (D × (D × Unit))) (t := (.ok (3 : Int))) (ts := (.ok ((Tc.d state), (odd, ())))) (Ev.int 3) (EvL.cons (α := D) (A := (D × Unit)) (t := (.ok (Tc.d state))) (ts := (.ok (odd, ()))) (Ev.dyn (t := .ok state) (Ev.var rfl)) (EvL.cons (α := D) (A := Unit) (t := (.ok odd)) (ts := (.ok ())) (Ev.var rfl) EvL.nil))))))) (Sv.ret (t := (.ok false)) .nil (fun _ => rfl) (Ev.bl false)) (Sv.let (v := (Li.mk ([(T2.mk (Tc.d (0 : Int)) (Tc.d (T1.mk (0 : Int)))), (T2.mk (Tc.d (65 : Int)) (Tc.d (T1.mk (64 : Int)))), (T2.mk (Tc.d true) (Tc.d (T1.mk (0 : Int)))), (T2.mk (Tc.d (3 : Int)) (Tc.d ([] : List Int))), (T2.mk (Tc.d (3 : Int)) (Tc.d (T2.mk (0 : Int) (1 : Int)))), (T2.mk (Tc.d (3 : Int)) (Tc.d (T2.mk (2 : Int) (2 : Int)))), (T2.mk (Tc.d (3 : Int)) (Tc.d (T3.mk (1 : Int) (0 : Int) (2 : Int)))), (T2.mk (Tc.d (3 : Int)) (Tc.d (T2.mk (0 : Int) (3 : Int)))), (T2.mk (Tc.d (3 : Int)) (Tc.d (Li.mk ([(2 : Int)] : List Int)))), (T2.mk (Tc.d (3 : Int)) (Tc.d (T2.mk (-(1 : Int)) (2 : Int))))] : List (T2 D D)))) rfl (Ev.lst (ts := (.ok ([(T2.mk (Tc.d (0 : Int)) (Tc.d (T1.mk (0 : Int)))), (T2.mk (Tc.d (65 : Int)) (Tc.d (T1.mk (64 : Int)))), (T2.mk (Tc.d true) (Tc.d (T1.mk (0 : Int)))), (T2.mk (Tc.d (3 : Int)) (Tc.d ([] : List Int))), (T2.mk (Tc.d (3 : Int)) (Tc.d (T2.mk (0 : Int) (1 : Int)))), (T2.mk (Tc.d (3 : Int)) (Tc.d (T2.mk (2 : Int) (2 : Int)))), (T2.mk (Tc.d (3 : Int)) (Tc.d (T3.mk (1 : Int) (0 : Int) (2 : Int)))), (T2.mk (Tc.d (3 : Int)) (Tc.d (T2.mk (0 : Int) (3 : Int)))), (T2.mk (Tc.d (3 : Int)) (Tc.d (Li.mk ([(2 : Int)] : List Int)))), (T2.mk (Tc.d (3 : Int)) (Tc.d (T2.mk (-(1 : Int)) (2 : Int))))] : List (T2 D D)))) (EvL.listS (t := (.ok (T2.mk (Tc.d (0 : Int)) (Tc.d (T1.mk (0 : Int)))))) (ts := (.ok ((T2.mk (Tc.d (65 : Int)) (Tc.d (T1.mk (64 : Int)))) :: ((T2.mk (Tc.d true) (Tc.d (T1.mk (0 : Int)))) :: ((T2.mk (Tc.d (3 : Int)) (Tc.d ([] : List Int))) :: ((T2.mk (Tc.d (3 : Int)) (Tc.d (T2.mk (0 : Int) (1 : Int)))) :: ((T2.mk (Tc.d (3 : Int)) (Tc.d (T2.mk (2 : Int) (2 : Int)))) :: ((T2.mk (Tc.d (3 : Int)) (Tc.d (T3.mk (1 : Int) (0 : Int) (2 : Int)))) :: ((T2.mk (Tc.d (3 : Int)) (Tc.d (T2.mk (0 : Int) (3 : Int)))) :: ((T2.mk (Tc.d (3 : Int)) (Tc.d (Li.mk ([(2 : Int)] : List Int)))) :: ((T2.mk (Tc.d (3 : Int)) (Tc.d (T2.mk (-(1 : Int)) (2 : Int)))) :: ([] : List (T2 D D))))))))))))) (Ev.t2 (t1 := (.ok (Tc.d (0 : Int)))) (t2 := (.ok (Tc.d (T1.mk (0 : Int))))) (Ev.dyn (t := .ok (0 : Int)) (Ev.int 0)) (Ev.dyn (t := .ok (T1.mk (0 : Int))) (Ev.t1 (t1 := (.ok (0 : Int))) (Ev.int 0)))) (EvL.listS (t := (.ok (T2.mk (Tc.d (65 : Int)) (Tc.d (T1.mk (64 : Int)))))) (ts := (.ok ((T2.mk (Tc.d true) (Tc.d (T1.mk (0 : Int)))) :: ((T2.mk (Tc.d (3 : Int)) (Tc.d ([] : List Int))) :: ((T2.mk (Tc.d (3 : Int)) (Tc.d (T2.mk (0 : Int) (1 : Int)))) :: ((T2.mk (Tc.d (3 : Int)) (Tc.d (T2.mk (2 : Int) (2 : Int)))) :: ((T2.mk (Tc.d (3 : Int)) (Tc.d (T3.mk (1 : Int) (0 : Int) (2 : Int)))) :: ((T2.mk (Tc.d (3 : Int)) (Tc.d (T2.mk (0 : Int) (3 : Int)))) :: ((T2.mk (Tc.d (3 : Int)) (Tc.d (Li.mk ([(2 : Int)] : List Int)))) :: ((T2.mk (Tc.d (3 : Int)) (Tc.d (T2.mk (-(1 : Int)) (2 : Int)))) :: ([] : List (T2 D D)))))))))))) (Ev.t2 (t1 := (.ok (Tc.d (65 : Int)))) (t2 := (.ok (Tc.d (T1.mk (64 : Int))))) (Ev.dyn (t := .ok (65 : Int)) (Ev.int 65)) (Ev.dyn (t := .ok (T1.mk (64 : Int))) (Ev.t1 (t1 := (.ok (64 : Int))) (Ev.int 64)))) (EvL.listS (t := (.ok (T2.mk (Tc.d true) (Tc.d (T1.mk (0 : Int)))))) (ts := (.ok ((T2.mk (Tc.d (3 : Int)) (Tc.d ([] : List Int))) :: ((T2.mk (Tc.d (3 : Int)) (Tc.d (T2.mk (0 : Int) (1 : Int)))) :: ((T2.mk (Tc.d (3 : Int)) (Tc.d (T2.mk (2 : Int) (2 : Int)))) :: ((T2.mk (Tc.d (3 : Int)) (Tc.d (T3.mk (1 : Int) (0 : Int) (2 : Int)))) :: ((T2.mk (Tc.d (3 : Int)) (Tc.d (T2.mk (0 : Int) (3 : Int)))) :: ((T2.mk (Tc.d (3 : Int)) (Tc.d (Li.mk ([(2 : Int)] : List Int)))) :: ((T2.mk (Tc.d (3 : Int)) (Tc.d (T2.mk (-(1 : Int)) (2 : Int)))) :: ([] : List (T2 D D))))))))))) (Ev.t2 (t1 := (.ok (Tc.d true))) (t2 := (.ok (Tc.d (T1.mk (0 : Int))))) (Ev.dyn (t := .ok true) (Ev.bl true)) (Ev.dyn (t := .ok (T1.mk (0 : Int))) (Ev.t1 (t1 := (.ok (0 : Int))) (Ev.int 0)))) (EvL.listS (t := (.ok (T2.mk (Tc.d (3 : Int)) (Tc.d ([] : List Int))))) (ts := (.ok ((T2.mk (Tc.d (3 : Int)) (Tc.d (T2.mk (0 : Int) (1 : Int)))) :: ((T2.mk (Tc.d (3 : Int)) (Tc.d (T2.mk (2 : Int) (2 : Int)))) :: ((T2.mk (Tc.d (3 : Int)) (Tc.d (T3.mk (1 : Int) (0 : Int) (2 : Int)))) :: ((T2.mk (Tc.d (3 : Int)) (Tc.d (T2.mk (0 : Int) (3 : Int)))) :: ((T2.mk (Tc.d (3 : Int)) (Tc.d (Li.mk ([(2 : Int)] : List Int)))) :: ((T2.mk (Tc.d (3 : Int)) (Tc.d (T2.mk (-(1 : Int)) (2 : Int)))) :: ([] : List (T2 D D)))))))))) (Ev.t2 (t1 := (.ok (Tc.d (3 : Int)))) (t2 := (.ok (Tc.d ([] : List Int)))) (Ev.dyn (t := .ok (3 : Int)) (Ev.int 3)) (Ev.dyn (t := .ok ([] : List Int)) (Ev.tupL (ts := (.ok ([] : List Int))) (EvL.list0 (α := Int))))) (EvL.listS (t := (.ok (T2.mk (Tc.d (3 : Int)) (Tc.d (T2.mk (0 : Int) (1 : Int)))))) (ts := (.ok ((T2.mk (Tc.d (3 : Int)) (Tc.d (T2.mk (2 : Int) (2 : Int)))) :: ((T2.mk (Tc.d (3 : Int)) (Tc.d (T3.mk (1 : Int) (0 : Int) (2 : Int)))) :: ((T2.mk (Tc.d (3 : Int)) (Tc.d (T2.mk (0 : Int) (3 : Int)))) :: ((T2.mk (Tc.d (3 : Int)) (Tc.d (Li.mk ([(2 : Int)] : List Int)))) :: ((T2.mk (Tc.d (3 : Int)) (Tc.d (T2.mk (-(1 : Int)) (2 : Int)))) :: ([] : List (T2 D D))))))))) (Ev.t2 (t1 := (.ok (Tc.d (3 : Int)))) (t2 := (.ok (Tc.d (T2.mk (0 : Int) (1 : Int))))) (Ev.dyn (t := .ok (3 : Int)) (Ev.int 3)) (Ev.dyn (t := .ok (T2.mk (0 : Int) (1 : Int))) (Ev.t2 (t1 := (.ok (0 : Int))) (t2 := (.ok (1 : Int))) (Ev.int 0) (Ev.int 1)))) (EvL.listS (t := (.ok (T2.mk (Tc.d (3 : Int)) (Tc.d (T2.mk (2 : Int) (2 : Int)))))) (ts := (.ok ((T2.mk (Tc.d (3 : Int)) (Tc.d (T3.mk (1 : Int) (0 : Int) (2 : Int)))) :: ((T2.mk (Tc.d (3 : Int)) (Tc.d (T2.mk (0 : Int) (3 : Int)))) :: ((T2.mk (Tc.d (3 : Int)) (Tc.d (Li.mk ([(2 : Int)] : List Int)))) :: ((T2.mk (Tc.d (3 : Int)) (Tc.d (T2.mk (-(1 : Int)) (2 : Int)))) :: ([] : List (T2 D D)))))))) (Ev.t2 (t1 := (.ok (Tc.d (3 : Int)))) (t2 := (.ok (Tc.d (T2.mk (2 : Int) (2 : Int))))) (Ev.dyn (t := .ok (3 : Int)) (Ev.int 3)) (Ev.dyn (t := .ok (T2.mk (2 : Int) (2 : Int))) (Ev.t2 (t1 := (.ok (2 : Int))) (t2 := (.ok (2 : Int))) (Ev.int 2) (Ev.int 2)))) (EvL.listS (t := (.ok (T2.mk (Tc.d (3 : Int)) (Tc.d (T3.mk (1 : Int) (0 : Int) (2 : Int)))))) (ts := (.ok ((T2.mk (Tc.d (3 : Int)) (Tc.d (T2.mk (0 : Int) (3 : Int)))) :: ((T2.mk (Tc.d (3 : Int)) (Tc.d (Li.mk ([(2 : Int)] : List Int)))) :: ((T2.mk (Tc.d (3 : Int)) (Tc.d (T2.mk (-(1 : Int)) (2 : Int)))) :: ([] : List (T2 D D))))))) (Ev.t2 (t1 := (.ok (Tc.d (3 : Int)))) (t2 := (.ok (Tc.d (T3.mk (1 : Int) (0 : Int) (2 : Int))))) (Ev.dyn (t := .ok (3 : Int)) (Ev.int 3)) (Ev.dyn (t := .ok (T3.mk (1 : Int) (0 : Int) (2 : Int))) (Ev.t3 (t1 := (.ok (1 : Int))) (t2 := (.ok (0 : Int))) (t3 := (.ok (2 : Int))) (Ev.int 1) (Ev.int 0) (Ev.int 2)))) (EvL.listS (t := (.ok (T2.mk (Tc.d (3 : Int)) (Tc.d (T2.mk (0 : Int) (3 : Int)))))) (ts := (.ok ((T2.mk (Tc.d (3 : Int)) (Tc.d (Li.mk ([(2 : Int)] : List Int)))) :: ((T2.mk (Tc.d (3 : Int)) (Tc.d (T2.mk (-(1 : Int)) (2 : Int)))) :: ([] : List (T2 D D)))))) (Ev.t2 (t1 := (.ok (Tc.d (3 : Int)))) (t2 := (.ok (Tc.d (T2.mk (0 : Int) (3 : Int))))) (Ev.dyn (t := .ok (3 : Int)) (Ev.int 3)) (Ev.dyn (t := .ok (T2.mk (0 : Int) (3 : Int))) (Ev.t2 (t1 := (.ok (0 : Int))) (t2 := (.ok (3 : Int))) (Ev.int 0) (Ev.int 3)))) (EvL.listS (t := (.ok (T2.mk (Tc.d (3 : Int)) (Tc.d (Li.mk ([(2 : Int)] : List Int)))))) (ts := (.ok ((T2.mk (Tc.d (3 : Int)) (Tc.d (T2.mk (-(1 : Int)) (2 : Int)))) :: ([] : List (T2 D D))))) (Ev.t2 (t1 := (.ok (Tc.d (3 : Int)))) (t2 := (.ok (Tc.d (Li.mk ([(2 : Int)] : List Int))))) (Ev.dyn (t := .ok (3 : Int)) (Ev.int 3)) (Ev.dyn (t := .ok (Li.mk ([(2 : Int)] : List Int))) (Ev.lst (ts := (.ok ([(2 : Int)] : List Int))) (EvL.listS (t := (.ok (2 : Int))) (ts := (.ok ([] : List Int))) (Ev.int 2) (EvL.list0 (α := Int)))))) (EvL.listS (t := (.ok (T2.mk (Tc.d (3 : Int)) (Tc.d (T2.mk (-(1 : Int)) (2 : Int)))))) (ts := (.ok ([] : List (T2 D D)))) (Ev.t2 (t1 := (.ok (Tc.d (3 : Int)))) (t2 := (.ok (Tc.d (T2.mk (-(1 : Int)) (2 : Int))))) (Ev.dyn (t := .ok (3 : Int)) (Ev.int 3)) (Ev.dyn (t := .ok (T2.mk (-(1 : Int)) (2 : Int))) (Ev.t2 (t1 := (.ok (-(1 : Int)))) (t2 := (.ok (2 : Int))) (Ev.neg (ti := (.ok (1 : Int))) (Ev.int 1)) (Ev.int 2)))) (EvL.list0 (α := (T2 D D)))))))))))))) (let wrong := (Li.mk ([(T2.mk (Tc.d (0 : Int)) (Tc.d (T1.mk (0 : Int)))), (T2.mk (Tc.d (65 : Int)) (Tc.d (T1.mk (64 : Int)))), (T2.mk (Tc.d true) (Tc.d (T1.mk (0 : Int)))), (T2.mk (Tc.d (3 : Int)) (Tc.d ([] : List Int))), (T2.mk (Tc.d (3 : Int)) (Tc.d (T2.mk (0 : Int) (1 : Int)))), (T2.mk (Tc.d (3 : Int)) (Tc.d (T2.mk (2 : Int) (2 : Int)))), (T2.mk (Tc.d (3 : Int)) (Tc.d (T3.mk (1 : Int) (0 : Int) (2 : Int)))), (T2.mk (Tc.d (3 : Int)) (Tc.d (T2.mk (0 : Int) (3 : Int)))), (T2.mk (Tc.d (3 : Int)) (Tc.d (Li.mk ([(2 : Int)] : List Int)))), (T2.mk (Tc.d (3 : Int)) (Tc.d (T2.mk (-(1 : Int)) (2 : Int))))] : List (T2 D D)))
  Sv.weak (wp_law_18 F width taps wrong) (.junk (.same (.same (.same (.junk (.junk (.junk (.junk (.junk (.junk (.junk (.junk (.same (.junk (.junk .nil)))))))))))))))))
theorem wp_law_14 (F : Fr) (width : Int) (taps : (List Int)) (press : C_Press) (state : (List Int)) (word : (List Int)) (bad : D) : Sv G_law F [] b_law_14 [.junk, .ar (Ar.P Drw.mk), .ar (Pv (width : Int)), .ar (Pv (taps : (List Int))), .ar (Pv (press : C_Press)), .ar (Pv (state : (List Int))), .ar (Pv (word : (List Int))), .junk, .junk, .junk, .ar (Pv (bad : D)), .junk, .junk, .junk, .junk] (m_law_14 width taps press state word bad) (fun v : Bool => .rt (Pv v)) :=
  Sv.ifd (tc := (((m__law_refused press (0 : Int) (Tc.d state) bad).bind fun z47 => .ok (!z47)).bind fun z48 => if z48 then .ok true else (((m__law_refused press (0 : Int) bad (Tc.d word)).bind fun z45 => .ok (!z45)).bind fun z46 => if z46 then .ok true else ((m__law_refused press (1 : Int) (Tc.d state) bad).bind fun z44 => .ok (!z44))))) .nil (Ev.or (tb := ((m__law_refused press (0 : Int) (Tc.d state) bad).bind fun z47 => .ok (!z47))) (tc := (((m__law_refused press (0 : Int) bad (Tc.d word)).bind fun z45 => .ok (!z45)).bind fun z46 => if z46 then .ok true else ((m__law_refused press (1 : Int) (Tc.d state) bad).bind fun z44 => .ok (!z44)))) (Ev.not (tb := (m__law_refused press (0 : Int) (Tc.d state) bad)) (Ev.call (t := (fun a : (C_Press × (Int × (D × (D × Unit)))) => m__law_refused a.1 a.2.1 a.2.2.1 a.2.2.2.1)) (ts := (.ok (press, ((0 : Int), ((Tc.d state), (bad, ())))))) rfl (EvL.cons (α := C_Press) (A := (Int × (D × (D × Unit)))) (t := (.ok press)) (ts := (.ok ((0 : Int), ((Tc.d state), (bad, ()))))) (Ev.var rfl) (EvL.cons (α := Int) (A := (D × (D × Unit))) (t := (.ok (0 : Int))) (ts := (.ok ((Tc.d state), (bad, ())))) (Ev.int 0) (EvL.cons (α := D) (A := (D × Unit)) (t := (.ok (Tc.d state))) (ts := (.ok (bad, ()))) (Ev.dyn (t := .ok state) (Ev.var rfl)) (EvL.cons (α := D) (A := Unit) (t := (.ok bad)) (ts := (.ok ())) (Ev.var rfl) EvL.nil)))))) (Ev.or (tb := ((m__law_refused press (0 : Int) bad (Tc.d word)).bind fun z45 => .ok (!z45))) (tc := ((m__law_refused press (1 : Int) (Tc.d state) bad).bind fun z44 => .ok (!z44))) (Ev.not (tb := (m__law_refused press (0 : Int) bad (Tc.d word))) (Ev.call (t := (fun a : (C_Press × (Int × (D × (D × Unit)))) => m__law_refused a.1 a.2.1 a.2.2.1 a.2.2.2.1)) (ts := (.ok (press, ((0 : Int), (bad, ((Tc.d word), ())))))) rfl (EvL.cons (α := C_Press) (A := (Int × (D × (D × Unit)))) (t := (.ok press)) (ts := (.ok ((0 : Int), (bad, ((Tc.d word), ()))))) (Ev.var rfl) (EvL.cons (α := Int) (A := (D × (D × Unit))) (t := (.ok (0 : Int))) (ts := (.ok (bad, ((Tc.d word), ())))) (Ev.int 0) (EvL.cons (α := D) (A := (D × Unit)) (t := (.ok bad)) (ts := (.ok ((Tc.d word), ()))) (Ev.var rfl) (EvL.cons (α := D) (A := Unit) (t := (.ok (Tc.d word))) (ts := (.ok ())) (Ev.dyn (t := .ok word) (Ev.var rfl)) EvL.nil)))))) (Ev.not (tb := (m__law_refused press (1 : Int) (Tc.d state) bad)) (Ev.call (t := (fun a : (C_Press × (Int × (D × (D × Unit)))) => m__law_refused a.1 a.2.1 a.2.2.1 a.2.2.2.1)) (ts := (.ok (press, ((1 : Int), ((Tc.d state), (bad, ())))))) rfl (EvL.cons (α := C_Press) (A := (Int × (D × (D × Unit)))) (t := (.ok press)) (ts := (.ok ((1 : Int), ((Tc.d state), (bad, ()))))) (Ev.var rfl) (EvL.cons (α := Int) (A := (D × (D × Unit))) (t := (.ok (1 : Int))) (ts := (.ok ((Tc.d state), (bad, ())))) (Ev.int 1) (EvL.cons (α := D) (A := (D × Unit)) (t := (.ok (Tc.d state))) (ts := (.ok (bad, ()))) (Ev.dyn (t := .ok state) (Ev.var rfl)) (EvL.cons (α := D) (A := Unit) (t := (.ok bad)) (ts := (.ok ())) (Ev.var rfl) EvL.nil)))))))) (Sv.ret (t := (.ok false)) .nil (fun _ => rfl) (Ev.bl false)) (Sv.bnd (t1 := ((m__law_draw Drw.mk (6 : Int)).bind fun z49 => ixR ((Li.mk ([(Tc.d (T2.mk (0 : Int) (2 : Int))), (Tc.d (T1.mk true)), (Tc.d (Li.mk ([(0 : Int), (1 : Int)] : List Int))), D.non, (Tc.d ("01" : String)), (Tc.d (T2.mk (0 : Int) D.non))] : List D)).l) z49)) rfl .nil (Ev.ix (t := (.ok (Li.mk ([(Tc.d (T2.mk (0 : Int) (2 : Int))), (Tc.d (T1.mk true)), (Tc.d (Li.mk ([(0 : Int), (1 : Int)] : List Int))), D.non, (Tc.d ("01" : String)), (Tc.d (T2.mk (0 : Int) D.non))] : List D)).l)) (ti := (m__law_draw Drw.mk (6 : Int))) (Ev.sLs (t := (.ok (Li.mk ([(Tc.d (T2.mk (0 : Int) (2 : Int))), (Tc.d (T1.mk true)), (Tc.d (Li.mk ([(0 : Int), (1 : Int)] : List Int))), D.non, (Tc.d ("01" : String)), (Tc.d (T2.mk (0 : Int) D.non))] : List D)).l)) (Ev.lLi (t := (.ok (Li.mk ([(Tc.d (T2.mk (0 : Int) (2 : Int))), (Tc.d (T1.mk true)), (Tc.d (Li.mk ([(0 : Int), (1 : Int)] : List Int))), D.non, (Tc.d ("01" : String)), (Tc.d (T2.mk (0 : Int) D.non))] : List D)))) (Ev.lst (ts := (.ok ([(Tc.d (T2.mk (0 : Int) (2 : Int))), (Tc.d (T1.mk true)), (Tc.d (Li.mk ([(0 : Int), (1 : Int)] : List Int))), D.non, (Tc.d ("01" : String)), (Tc.d (T2.mk (0 : Int) D.non))] : List D))) (EvL.listS (t := (.ok (Tc.d (T2.mk (0 : Int) (2 : Int))))) (ts := (.ok ((Tc.d (T1.mk true)) :: ((Tc.d (Li.mk ([(0 : Int), (1 : Int)] : List Int))) :: (D.non :: ((Tc.d ("01" : String)) :: ((Tc.d (T2.mk (0 : Int) D.non)) :: ([] : List D)))))))) (Ev.dyn (t := .ok (T2.mk (0 : Int) (2 : Int))) (Ev.t2 (t1 := (.ok (0 : Int))) (t2 := (.ok (2 : Int))) (Ev.int 0) (Ev.int 2))) (EvL.listS (t := (.ok (Tc.d (T1.mk true)))) (ts := (.ok ((Tc.d (Li.mk ([(0 : Int), (1 : Int)] : List Int))) :: (D.non :: ((Tc.d ("01" : String)) :: ((Tc.d (T2.mk (0 : Int) D.non)) :: ([] : List D))))))) (Ev.dyn (t := .ok (T1.mk true)) (Ev.t1 (t1 := (.ok true)) (Ev.bl true))) (EvL.listS (t := (.ok (Tc.d (Li.mk ([(0 : Int), (1 : Int)] : List Int))))) (ts := (.ok (D.non :: ((Tc.d ("01" : String)) :: ((Tc.d (T2.mk (0 : Int) D.non)) :: ([] : List D)))))) (Ev.dyn (t := .ok (Li.mk ([(0 : Int), (1 : Int)] : List Int))) (Ev.lst (ts := (.ok ([(0 : Int), (1 : Int)] : List Int))) (EvL.listS (t := (.ok (0 : Int))) (ts := (.ok ((1 : Int) :: ([] : List Int)))) (Ev.int 0) (EvL.listS (t := (.ok (1 : Int))) (ts := (.ok ([] : List Int))) (Ev.int 1) (EvL.list0 (α := Int)))))) (EvL.listS (t := (.ok D.non)) (ts := (.ok ((Tc.d ("01" : String)) :: ((Tc.d (T2.mk (0 : Int) D.non)) :: ([] : List D))))) Ev.nonD (EvL.listS (t := (.ok (Tc.d ("01" : String)))) (ts := (.ok ((Tc.d (T2.mk (0 : Int) D.non)) :: ([] : List D)))) (Ev.dyn (t := .ok ("01" : String)) (Ev.str "01")) (EvL.listS (t := (.ok (Tc.d (T2.mk (0 : Int) D.non)))) (ts := (.ok ([] : List D))) (Ev.dyn (t := .ok (T2.mk (0 : Int) D.non)) (Ev.t2 (t1 := (.ok (0 : Int))) (t2 := (.ok D.non)) (Ev.int 0) Ev.nonD)) (EvL.list0 (α := D))))))))))) (Ev.call (t := (fun a : (Drw × (Int × Unit)) => m__law_draw a.1 a.2.1)) (ts := (.ok (Drw.mk, ((6 : Int), ())))) rfl (EvL.cons (α := Drw) (A := (Int × Unit)) (t := (.ok Drw.mk)) (ts := (.ok ((6 : Int), ()))) (Ev.var rfl) (EvL.cons (α := Int) (A := Unit) (t := (.ok (6 : Int))) (ts := (.ok ())) (Ev.int 6) EvL.nil)))) fun odd => (Sv.weak (wp_law_16 F width taps press state odd) (.junk (.same (.same (.same (.same (.same (.junk (.junk (.junk (.junk (.junk (.same (.junk (.junk (.junk .nil)))))))))))))))))
theorem wp_law_12 (F : Fr) (width : Int) (taps : (List Int)) (press : C_Press) (state : (List Int)) (word : (List Int)) (table : (Li (List Int))) (folded : (Li (List Int))) : Sv G_law F [] b_law_12 [.junk, .ar (Ar.P Drw.mk), .ar (Pv (width : Int)), .ar (Pv (taps : (List Int))), .ar (Pv (press : C_Press)), .ar (Pv (state : (List Int))), .ar (Pv (word : (List Int))), .junk, .ar (Pv (table : (Li (List Int)))), .ar (Pv (folded : (Li (List Int)))), .junk, .junk, .junk, .junk, .junk] (m_law_12 width taps press state word table folded) (fun v : Bool => .rt (Pv v)) :=
  Sv.ifd (tc := (((m_Press_signature press (Li.mk (table.l.map Tc.d))).bind fun z21 => (m__law_signature width taps folded).bind fun z22 => .ok (decide (z21 = z22))).bind fun z23 => .ok (!z23))) .nil (Ev.not (tb := ((m_Press_signature press (Li.mk (table.l.map Tc.d))).bind fun z21 => (m__law_signature width taps folded).bind fun z22 => .ok (decide (z21 = z22)))) (Ev.same rfl (by decide) (t1 := (m_Press_signature press (Li.mk (table.l.map Tc.d)))) (t2 := (m__law_signature width taps folded)) (Ev.meth (ta := (.ok press)) (t := (fun a : (C_Press × ((Li D) × Unit)) => m_Press_signature a.1 a.2.1)) (ts := (.ok ((Li.mk (table.l.map Tc.d)), ()))) rfl (ho_Press (show ("signature" : Str) ∈ ms_Press by decide +kernel)) (Ev.var rfl) (EvL.cons (α := (Li D)) (A := Unit) (t := (.ok (Li.mk (table.l.map Tc.d)))) (ts := (.ok ())) (Ev.liD (t := .ok table) (Ev.var rfl)) EvL.nil)) (Ev.call (t := (fun a : (Int × ((List Int) × ((Li (List Int)) × Unit))) => m__law_signature a.1 a.2.1 a.2.2.1)) (ts := (.ok (width, (taps, (folded, ()))))) rfl (EvL.cons (α := Int) (A := ((List Int) × ((Li (List Int)) × Unit))) (t := (.ok width)) (ts := (.ok (taps, (folded, ())))) (Ev.var rfl) (EvL.cons (α := (List Int)) (A := ((Li (List Int)) × Unit)) (t := (.ok taps)) (ts := (.ok (folded, ()))) (Ev.var rfl) (EvL.cons (α := (Li (List Int))) (A := Unit) (t := (.ok folded)) (ts := (.ok ())) (Ev.var rfl) EvL.nil)))))) (Sv.ret (t := (.ok false)) .nil (fun _ => rfl) (Ev.bl false)) (Sv.bnd (t1 := ((((((catR word ([(0 : Int)] : List Int)).map Tc.d).bind fun z39 => ((((((catR (cutD word none (some (-(1 : Int)))) ([(2 : Int)] : List Int)).map Tc.d).bind fun z34 => (((catR ((cutD word none (some (-(1 : Int)))).map Tc.d) ([(Tc.d true)] : List D)).map Tc.d).bind fun z33 => .ok (z33 :: ([] : List D))).bind fun z35 => .ok (z34 :: z35)).bind fun z36 => .ok (D.non :: z36)).bind fun z37 => .ok ((Tc.d (Li.mk word)) :: z37)).bind fun z38 => .ok ((Tc.d (cutD word none (some (-(1 : Int))))) :: z38)).bind fun z40 => .ok (z39 :: z40)).bind fun z41 => .ok (Li.mk z41)).map Li.l).bind fun z42 => (m__law_draw Drw.mk (6 : Int)).bind fun z43 => ixR z42 z43)) rfl .nil (Ev.ix (t := (((((catR word ([(0 : Int)] : List Int)).map Tc.d).bind fun z39 => ((((((catR (cutD word none (some (-(1 : Int)))) ([(2 : Int)] : List Int)).map Tc.d).bind fun z34 => (((catR ((cutD word none (some (-(1 : Int)))).map Tc.d) ([(Tc.d true)] : List D)).map Tc.d).bind fun z33 => .ok (z33 :: ([] : List D))).bind fun z35 => .ok (z34 :: z35)).bind fun z36 => .ok (D.non :: z36)).bind fun z37 => .ok ((Tc.d (Li.mk word)) :: z37)).bind fun z38 => .ok ((Tc.d (cutD word none (some (-(1 : Int))))) :: z38)).bind fun z40 => .ok (z39 :: z40)).bind fun z41 => .ok (Li.mk z41)).map Li.l)) (ti := (m__law_draw Drw.mk (6 : Int))) (Ev.sLs (t := (((((catR word ([(0 : Int)] : List Int)).map Tc.d).bind fun z39 => ((((((catR (cutD word none (some (-(1 : Int)))) ([(2 : Int)] : List Int)).map Tc.d).bind fun z34 => (((catR ((cutD word none (some (-(1 : Int)))).map Tc.d) ([(Tc.d true)] : List D)).map Tc.d).bind fun z33 => .ok (z33 :: ([] : List D))).bind fun z35 => .ok (z34 :: z35)).bind fun z36 => .ok (D.non :: z36)).bind fun z37 => .ok ((Tc.d (Li.mk word)) :: z37)).bind fun z38 => .ok ((Tc.d (cutD word none (some (-(1 : Int))))) :: z38)).bind fun z40 => .ok (z39 :: z40)).bind fun z41 => .ok (Li.mk z41)).map Li.l)) (Ev.lLi (t := ((((catR word ([(0 : Int)] : List Int)).map Tc.d).bind fun z39 => ((((((catR (cutD word none (some (-(1 : Int)))) ([(2 : Int)] : List Int)).map Tc.d).bind fun z34 => (((catR ((cutD word none (some (-(1 : Int)))).map Tc.d) ([(Tc.d true)] : List D)).map Tc.d).bind fun z33 => .ok (z33 :: ([] : List D))).bind fun z35 => .ok (z34 :: z35)).bind fun z36 => .ok (D.non :: z36)).bind fun z37 => .ok ((Tc.d (Li.mk word)) :: z37)).bind fun z38 => .ok ((Tc.d (cutD word none (some (-(1 : Int))))) :: z38)).bind fun z40 => .ok (z39 :: z40)).bind fun z41 => .ok (Li.mk z41))) (Ev.lst (ts := (((catR word ([(0 : Int)] : List Int)).map Tc.d).bind fun z39 => ((((((catR (cutD word none (some (-(1 : Int)))) ([(2 : Int)] : List Int)).map Tc.d).bind fun z34 => (((catR ((cutD word none (some (-(1 : Int)))).map Tc.d) ([(Tc.d true)] : List D)).map Tc.d).bind fun z33 => .ok (z33 :: ([] : List D))).bind fun z35 => .ok (z34 :: z35)).bind fun z36 => .ok (D.non :: z36)).bind fun z37 => .ok ((Tc.d (Li.mk word)) :: z37)).bind fun z38 => .ok ((Tc.d (cutD word none (some (-(1 : Int))))) :: z38)).bind fun z40 => .ok (z39 :: z40))) (EvL.listS (t := ((catR word ([(0 : Int)] : List Int)).map Tc.d)) (ts := ((((((catR (cutD word none (some (-(1 : Int)))) ([(2 : Int)] : List Int)).map Tc.d).bind fun z34 => (((catR ((cutD word none (some (-(1 : Int)))).map Tc.d) ([(Tc.d true)] : List D)).map Tc.d).bind fun z33 => .ok (z33 :: ([] : List D))).bind fun z35 => .ok (z34 :: z35)).bind fun z36 => .ok (D.non :: z36)).bind fun z37 => .ok ((Tc.d (Li.mk word)) :: z37)).bind fun z38 => .ok ((Tc.d (cutD word none (some (-(1 : Int))))) :: z38))) (Ev.dyn (Ev.catT (t1 := (.ok word)) (t2 := (.ok ([(0 : Int)] : List Int))) (Ev.var rfl) (Ev.tupL (ts := (.ok ([(0 : Int)] : List Int))) (EvL.listS (t := (.ok (0 : Int))) (ts := (.ok ([] : List Int))) (Ev.int 0) (EvL.list0 (α := Int)))))) (EvL.listS (t := (.ok (Tc.d (cutD word none (some (-(1 : Int))))))) (ts := (((((catR (cutD word none (some (-(1 : Int)))) ([(2 : Int)] : List Int)).map Tc.d).bind fun z34 => (((catR ((cutD word none (some (-(1 : Int)))).map Tc.d) ([(Tc.d true)] : List D)).map Tc.d).bind fun z33 => .ok (z33 :: ([] : List D))).bind fun z35 => .ok (z34 :: z35)).bind fun z36 => .ok (D.non :: z36)).bind fun z37 => .ok ((Tc.d (Li.mk word)) :: z37))) (Ev.dyn (t := .ok (cutD word none (some (-(1 : Int))))) (Ev.slT (t := (.ok word)) (tl := (.ok none)) (th := (.ok (some (-(1 : Int))))) (Ev.var rfl) EvO.none (EvO.some (ti := (.ok (-(1 : Int)))) (Ev.neg (ti := (.ok (1 : Int))) (Ev.int 1))))) (EvL.listS (t := (.ok (Tc.d (Li.mk word)))) (ts := ((((catR (cutD word none (some (-(1 : Int)))) ([(2 : Int)] : List Int)).map Tc.d).bind fun z34 => (((catR ((cutD word none (some (-(1 : Int)))).map Tc.d) ([(Tc.d true)] : List D)).map Tc.d).bind fun z33 => .ok (z33 :: ([] : List D))).bind fun z35 => .ok (z34 :: z35)).bind fun z36 => .ok (D.non :: z36))) (Ev.dyn (t := .ok (Li.mk word)) (Ev.list (t := (.ok word)) (Ev.sTup (t := (.ok word)) (Ev.var rfl)))) (EvL.listS (t := (.ok D.non)) (ts := (((catR (cutD word none (some (-(1 : Int)))) ([(2 : Int)] : List Int)).map Tc.d).bind fun z34 => (((catR ((cutD word none (some (-(1 : Int)))).map Tc.d) ([(Tc.d true)] : List D)).map Tc.d).bind fun z33 => .ok (z33 :: ([] : List D))).bind fun z35 => .ok (z34 :: z35))) Ev.nonD (EvL.listS (t := ((catR (cutD word none (some (-(1 : Int)))) ([(2 : Int)] : List Int)).map Tc.d)) (ts := (((catR ((cutD word none (some (-(1 : Int)))).map Tc.d) ([(Tc.d true)] : List D)).map Tc.d).bind fun z33 => .ok (z33 :: ([] : List D)))) (Ev.dyn (Ev.catT (t1 := (.ok (cutD word none (some (-(1 : Int)))))) (t2 := (.ok ([(2 : Int)] : List Int))) (Ev.slT (t := (.ok word)) (tl := (.ok none)) (th := (.ok (some (-(1 : Int))))) (Ev.var rfl) EvO.none (EvO.some (ti := (.ok (-(1 : Int)))) (Ev.neg (ti := (.ok (1 : Int))) (Ev.int 1)))) (Ev.tupL (ts := (.ok ([(2 : Int)] : List Int))) (EvL.listS (t := (.ok (2 : Int))) (ts := (.ok ([] : List Int))) (Ev.int 2) (EvL.list0 (α := Int)))))) (EvL.listS (t := ((catR ((cutD word none (some (-(1 : Int)))).map Tc.d) ([(Tc.d true)] : List D)).map Tc.d)) (ts := (.ok ([] : List D))) (Ev.dyn (Ev.catT (t1 := (.ok ((cutD word none (some (-(1 : Int)))).map Tc.d))) (t2 := (.ok ([(Tc.d true)] : List D))) (Ev.tupD (t := .ok (cutD word none (some (-(1 : Int))))) (Ev.slT (t := (.ok word)) (tl := (.ok none)) (th := (.ok (some (-(1 : Int))))) (Ev.var rfl) EvO.none (EvO.some (ti := (.ok (-(1 : Int)))) (Ev.neg (ti := (.ok (1 : Int))) (Ev.int 1))))) (Ev.tupL (ts := (.ok ([(Tc.d true)] : List D))) (EvL.listS (t := (.ok (Tc.d true))) (ts := (.ok ([] : List D))) (Ev.dyn (t := .ok true) (Ev.bl true)) (EvL.list0 (α := D)))))) (EvL.list0 (α := D))))))))))) (Ev.call (t := (fun a : (Drw × (Int × Unit)) => m__law_draw a.1 a.2.1)) (ts := (.ok (Drw.mk, ((6 : Int), ())))) rfl (EvL.cons (α := Drw) (A := (Int × Unit)) (t := (.ok Drw.mk)) (ts := (.ok ((6 : Int), ()))) (Ev.var rfl) (EvL.cons (α := Int) (A := Unit) (t := (.ok (6 : Int))) (ts := (.ok ())) (Ev.int 6) EvL.nil)))) fun bad => (Sv.weak (wp_law_14 F width taps press state word bad) (.junk (.same (.same (.same (.same (.same (.same (.junk (.junk (.junk (.same (.junk (.junk (.junk (.junk .nil)))))))))))))))))
theorem wp_law_9 (F : Fr) (width : Int) (taps : (List Int)) (press : C_Press) (state : (List Int)) (word : (List Int)) (words : (Li (List Int))) (table : (Li (List Int))) : Sv G_law F [] b_law_9 [.junk, .ar (Ar.P Drw.mk), .ar (Pv (width : Int)), .ar (Pv (taps : (List Int))), .ar (Pv (press : C_Press)), .ar (Pv (state : (List Int))), .ar (Pv (word : (List Int))), .ar (Pv (words : (Li (List Int)))), .ar (Pv (table : (Li (List Int)))), .junk, .junk, .junk, .junk, .junk, .junk] (m_law_9 width taps press state word words table) (fun v : Bool => .rt (Pv v)) :=
  Sv.ifd (tc := (((m_Press_press press (Li.mk (words.l.map Tc.d))).bind fun z16 => (m__law_signature width taps words).bind fun z17 => .ok (decide (z16 = z17))).bind fun z18 => .ok (!z18))) .nil (Ev.not (tb := ((m_Press_press press (Li.mk (words.l.map Tc.d))).bind fun z16 => (m__law_signature width taps words).bind fun z17 => .ok (decide (z16 = z17)))) (Ev.same rfl (by decide) (t1 := (m_Press_press press (Li.mk (words.l.map Tc.d)))) (t2 := (m__law_signature width taps words)) (Ev.meth (ta := (.ok press)) (t := (fun a : (C_Press × ((Li D) × Unit)) => m_Press_press a.1 a.2.1)) (ts := (.ok ((Li.mk (words.l.map Tc.d)), ()))) rfl (ho_Press (show ("press" : Str) ∈ ms_Press by decide +kernel)) (Ev.var rfl) (EvL.cons (α := (Li D)) (A := Unit) (t := (.ok (Li.mk (words.l.map Tc.d)))) (ts := (.ok ())) (Ev.liD (t := .ok words) (Ev.var rfl)) EvL.nil)) (Ev.call (t := (fun a : (Int × ((List Int) × ((Li (List Int)) × Unit))) => m__law_signature a.1 a.2.1 a.2.2.1)) (ts := (.ok (width, (taps, (words, ()))))) rfl (EvL.cons (α := Int) (A := ((List Int) × ((Li (List Int)) × Unit))) (t := (.ok width)) (ts := (.ok (taps, (words, ())))) (Ev.var rfl) (EvL.cons (α := (List Int)) (A := ((Li (List Int)) × Unit)) (t := (.ok taps)) (ts := (.ok (words, ()))) (Ev.var rfl) (EvL.cons (α := (Li (List Int))) (A := Unit) (t := (.ok words)) (ts := (.ok ())) (Ev.var rfl) EvL.nil)))))) (Sv.ret (t := (.ok false)) .nil (fun _ => rfl) (Ev.bl false)) (Sv.bndc (t1 := ((Rs.mapR (fun row : (List Int) => (m__law_fold width row)) table.l).bind fun ys => .ok (Li.mk ys))) rfl .nil (Ev.lcM (tl := (.ok table.l)) (fun row : (List Int) => (m__law_fold width row)) (ItC.seq (t := (.ok table.l)) (Ev.sLs (t := (.ok table.l)) (Ev.lLi (t := (.ok table)) (Ev.var rfl)))) (by decide) (fun row => (Bd.v rfl)) (fun _ => (.junk (.ar (.ar (.ar (.ar (.ar (.ar (.ar (.ar (.junk (.junk (.junk (.junk (.junk (.junk .nil)))))))))))))))) (fun row : (List Int) => (Ev.call (t := (fun a : (Int × ((List Int) × Unit)) => m__law_fold a.1 a.2.1)) (ts := (.ok (width, (row, ())))) rfl (EvL.cons (α := Int) (A := ((List Int) × Unit)) (t := (.ok width)) (ts := (.ok (row, ()))) (Ev.var rfl) (EvL.cons (α := (List Int)) (A := Unit) (t := (.ok row)) (ts := (.ok ())) (Ev.var rfl) EvL.nil))))) fun folded => (Sv.ifd (tc := ((((Rs.mapR (fun row : (List Int) => (m_Press_fold press (Tc.d row))) table.l).bind fun ys => .ok (Li.mk ys)).bind fun z19 => .ok (decide (z19 = folded))).bind fun z20 => .ok (!z20))) .nil (Ev.not (tb := (((Rs.mapR (fun row : (List Int) => (m_Press_fold press (Tc.d row))) table.l).bind fun ys => .ok (Li.mk ys)).bind fun z19 => .ok (decide (z19 = folded)))) (Ev.same rfl (by decide) (t1 := ((Rs.mapR (fun row : (List Int) => (m_Press_fold press (Tc.d row))) table.l).bind fun ys => .ok (Li.mk ys))) (t2 := (.ok folded)) (Ev.lcM (tl := (.ok table.l)) (fun row : (List Int) => (m_Press_fold press (Tc.d row))) (ItC.seq (t := (.ok table.l)) (Ev.sLs (t := (.ok table.l)) (Ev.lLi (t := (.ok table)) (Ev.var rfl)))) (by decide) (fun row => (Bd.v rfl)) (fun _ => (.junk (.ar (.ar (.ar (.ar (.ar (.ar (.ar (.ar (.ar (.junk (.junk (.junk (.junk (.junk .nil)))))))))))))))) (fun row : (List Int) => (Ev.meth (ta := (.ok press)) (t := (fun a : (C_Press × (D × Unit)) => m_Press_fold a.1 a.2.1)) (ts := (.ok ((Tc.d row), ()))) rfl (ho_Press (show ("fold" : Str) ∈ ms_Press by decide +kernel)) (Ev.var rfl) (EvL.cons (α := D) (A := Unit) (t := (.ok (Tc.d row))) (ts := (.ok ())) (Ev.dyn (t := .ok row) (Ev.var rfl)) EvL.nil)))) (Ev.var rfl))) (Sv.ret (t := (.ok false)) .nil (fun _ => rfl) (Ev.bl false)) (Sv.weak (wp_law_12 F width taps press state word table folded) (.junk (.same (.same (.same (.same (.same (.same (.junk (.same (.same (.junk (.junk (.junk (.junk (.junk .nil))))))))))))))))))
theorem wp_law_6 (F : Fr) (width : Int) (taps : (List Int)) (press : C_Press) (state : (List Int)) (word : (List Int)) : Sv G_law F [] b_law_6 [.junk, .ar (Ar.P Drw.mk), .ar (Pv (width : Int)), .ar (Pv (taps : (List Int))), .ar (Pv (press : C_Press)), .ar (Pv (state : (List Int))), .ar (Pv (word : (List Int))), .junk, .junk, .junk, .junk, .junk, .junk, .junk, .junk] (m_law_6 width taps press state word) (fun v : Bool => .rt (Pv v)) :=
  Sv.bndc (t1 := (((m__law_draw Drw.mk (21 : Int)).bind fun z6 => rangeR z6).bind fun z7 => (Rs.mapR (fun k' : Int => (m__law_bits_of Drw.mk width)) z7).bind fun ys => .ok (Li.mk ys))) rfl .nil (Ev.lcM (tl := ((m__law_draw Drw.mk (21 : Int)).bind fun z6 => rangeR z6)) (fun k' : Int => (m__law_bits_of Drw.mk width)) (It.c (It.rng1 (ti := (m__law_draw Drw.mk (21 : Int))) (Ev.call (t := (fun a : (Drw × (Int × Unit)) => m__law_draw a.1 a.2.1)) (ts := (.ok (Drw.mk, ((21 : Int), ())))) rfl (EvL.cons (α := Drw) (A := (Int × Unit)) (t := (.ok Drw.mk)) (ts := (.ok ((21 : Int), ()))) (Ev.var rfl) (EvL.cons (α := Int) (A := Unit) (t := (.ok (21 : Int))) (ts := (.ok ())) (Ev.int 21) EvL.nil))))) (by decide) (fun k' => (Bd.v rfl)) (fun _ => (.junk (.ar (.ar (.ar (.ar (.ar (.ar (.junk (.junk (.junk (.junk (.junk (.junk (.junk (.junk .nil)))))))))))))))) (fun k' : Int => (Ev.call (t := (fun a : (Drw × (Int × Unit)) => m__law_bits_of a.1 a.2.1)) (ts := (.ok (Drw.mk, (width, ())))) rfl (EvL.cons (α := Drw) (A := (Int × Unit)) (t := (.ok Drw.mk)) (ts := (.ok (width, ()))) (Ev.var rfl) (EvL.cons (α := Int) (A := Unit) (t := (.ok width)) (ts := (.ok ())) (Ev.var rfl) EvL.nil))))) fun words => (Sv.bndc (t1 := (((m__law_draw Drw.mk (11 : Int)).bind fun z8 => rangeR z8).bind fun z12 => (Rs.mapR (fun k' : Int => ((((m__law_draw Drw.mk ((3 * width) + (1 : Int))).bind fun z9 => .ok (z9, ())).bind fun z10 => .ok (Drw.mk, z10)).bind fun z11 => m__law_bits_of (z11.1) (z11.2.1))) z12).bind fun ys => .ok (Li.mk ys))) rfl .nil (Ev.lcM (tl := ((m__law_draw Drw.mk (11 : Int)).bind fun z8 => rangeR z8)) (fun k' : Int => ((((m__law_draw Drw.mk ((3 * width) + (1 : Int))).bind fun z9 => .ok (z9, ())).bind fun z10 => .ok (Drw.mk, z10)).bind fun z11 => m__law_bits_of (z11.1) (z11.2.1))) (It.c (It.rng1 (ti := (m__law_draw Drw.mk (11 : Int))) (Ev.call (t := (fun a : (Drw × (Int × Unit)) => m__law_draw a.1 a.2.1)) (ts := (.ok (Drw.mk, ((11 : Int), ())))) rfl (EvL.cons (α := Drw) (A := (Int × Unit)) (t := (.ok Drw.mk)) (ts := (.ok ((11 : Int), ()))) (Ev.var rfl) (EvL.cons (α := Int) (A := Unit) (t := (.ok (11 : Int))) (ts := (.ok ())) (Ev.int 11) EvL.nil))))) (by decide) (fun k' => (Bd.v rfl)) (fun _ => (.junk (.ar (.ar (.ar (.ar (.ar (.ar (.ar (.junk (.junk (.junk (.junk (.junk (.junk (.junk .nil)))))))))))))))) (fun k' : Int => (Ev.call (t := (fun a : (Drw × (Int × Unit)) => m__law_bits_of a.1 a.2.1)) (ts := (((m__law_draw Drw.mk ((3 * width) + (1 : Int))).bind fun z9 => .ok (z9, ())).bind fun z10 => .ok (Drw.mk, z10))) rfl (EvL.cons (α := Drw) (A := (Int × Unit)) (t := (.ok Drw.mk)) (ts := ((m__law_draw Drw.mk ((3 * width) + (1 : Int))).bind fun z9 => .ok (z9, ()))) (Ev.var rfl) (EvL.cons (α := Int) (A := Unit) (t := (m__law_draw Drw.mk ((3 * width) + (1 : Int)))) (ts := (.ok ())) (Ev.call (t := (fun a : (Drw × (Int × Unit)) => m__law_draw a.1 a.2.1)) (ts := (.ok (Drw.mk, (((3 * width) + (1 : Int)), ())))) rfl (EvL.cons (α := Drw) (A := (Int × Unit)) (t := (.ok Drw.mk)) (ts := (.ok (((3 * width) + (1 : Int)), ()))) (Ev.var rfl) (EvL.cons (α := Int) (A := Unit) (t := (.ok ((3 * width) + (1 : Int)))) (ts := (.ok ())) (Ev.add (ti := (.ok (3 * width))) (tj := (.ok (1 : Int))) (Ev.kmul (k := 3) (by decide) (ti := (.ok width)) (Ev.var rfl)) (Ev.int 1)) EvL.nil))) EvL.nil))))) fun table => (Sv.ifd (tc := (((m_Press_step press (Tc.d state) (Tc.d word)).bind fun z13 => (m__law_after width taps state word).bind fun z14 => .ok (decide (z13 = z14))).bind fun z15 => .ok (!z15))) .nil (Ev.not (tb := ((m_Press_step press (Tc.d state) (Tc.d word)).bind fun z13 => (m__law_after width taps state word).bind fun z14 => .ok (decide (z13 = z14)))) (Ev.same rfl (by decide) (t1 := (m_Press_step press (Tc.d state) (Tc.d word))) (t2 := (m__law_after width taps state word)) (Ev.meth (ta := (.ok press)) (t := (fun a : (C_Press × (D × (D × Unit))) => m_Press_step a.1 a.2.1 a.2.2.1)) (ts := (.ok ((Tc.d state), ((Tc.d word), ())))) rfl (ho_Press (show ("step" : Str) ∈ ms_Press by decide +kernel)) (Ev.var rfl) (EvL.cons (α := D) (A := (D × Unit)) (t := (.ok (Tc.d state))) (ts := (.ok ((Tc.d word), ()))) (Ev.dyn (t := .ok state) (Ev.var rfl)) (EvL.cons (α := D) (A := Unit) (t := (.ok (Tc.d word))) (ts := (.ok ())) (Ev.dyn (t := .ok word) (Ev.var rfl)) EvL.nil))) (Ev.call (t := (fun a : (Int × ((List Int) × ((List Int) × ((List Int) × Unit)))) => m__law_after a.1 a.2.1 a.2.2.1 a.2.2.2.1)) (ts := (.ok (width, (taps, (state, (word, ())))))) rfl (EvL.cons (α := Int) (A := ((List Int) × ((List Int) × ((List Int) × Unit)))) (t := (.ok width)) (ts := (.ok (taps, (state, (word, ()))))) (Ev.var rfl) (EvL.cons (α := (List Int)) (A := ((List Int) × ((List Int) × Unit))) (t := (.ok taps)) (ts := (.ok (state, (word, ())))) (Ev.var rfl) (EvL.cons (α := (List Int)) (A := ((List Int) × Unit)) (t := (.ok state)) (ts := (.ok (word, ()))) (Ev.var rfl) (EvL.cons (α := (List Int)) (A := Unit) (t := (.ok word)) (ts := (.ok ())) (Ev.var rfl) EvL.nil))))))) (Sv.ret (t := (.ok false)) .nil (fun _ => rfl) (Ev.bl false)) (Sv.weak (wp_law_9 F width taps press state word words table) (.junk (.same (.same (.same (.same (.same (.same (.same (.same (.junk (.junk (.junk (.junk (.junk (.junk .nil))))))))))))))))))
theorem wp_law (hm : ∀ ns : List Int, ns.length ≤ 63 → (m_law ⟨ns⟩).wp (fun b => b = true) fun _ => False) : ∀ ds M R RX, ds.length = 1 → spLaw 63 ds M R RX → wpSs G_law (fun x _ M => RX x M) b_law ⟨fun _ M => R .non M, R, fun _ _ => False, fun _ _ => False⟩ (startD N_law ds) M :=
  law_wpD (m := 14) (j := 1) (k := 0) (t := m_law) rfl (fun a => [.ar (Pv a), .ar (Ar.P Drw.mk), .junk, .junk, .junk, .junk, .junk, .junk, .junk, .junk, .junk, .junk, .junk, .junk, .junk]) (fun _ => rfl) (by decide) (by decide) rfl (fun F a _ =>
  let script := a
  Sv.tup (t1 := (((((m__law_draw Drw.mk (2 : Int)).bind fun z1 => ixR ((Li.mk ([(8 : Int), (64 : Int)] : List Int)).l) z1).bind fun z2 => .ok (z2, ())).bind fun z3 => .ok (Drw.mk, z3)).bind fun z4 => m__law_press (z4.1) (z4.2.1))) .nil (Ev.call (t := (fun a : (Drw × (Int × Unit)) => m__law_press a.1 a.2.1)) (ts := ((((m__law_draw Drw.mk (2 : Int)).bind fun z1 => ixR ((Li.mk ([(8 : Int), (64 : Int)] : List Int)).l) z1).bind fun z2 => .ok (z2, ())).bind fun z3 => .ok (Drw.mk, z3))) rfl (EvL.cons (α := Drw) (A := (Int × Unit)) (t := (.ok Drw.mk)) (ts := (((m__law_draw Drw.mk (2 : Int)).bind fun z1 => ixR ((Li.mk ([(8 : Int), (64 : Int)] : List Int)).l) z1).bind fun z2 => .ok (z2, ()))) (Ev.var rfl) (EvL.cons (α := Int) (A := Unit) (t := ((m__law_draw Drw.mk (2 : Int)).bind fun z1 => ixR ((Li.mk ([(8 : Int), (64 : Int)] : List Int)).l) z1)) (ts := (.ok ())) (Ev.ix (t := (.ok (Li.mk ([(8 : Int), (64 : Int)] : List Int)).l)) (ti := (m__law_draw Drw.mk (2 : Int))) (Ev.sLs (t := (.ok (Li.mk ([(8 : Int), (64 : Int)] : List Int)).l)) (Ev.lLi (t := (.ok (Li.mk ([(8 : Int), (64 : Int)] : List Int)))) (Ev.lst (ts := (.ok ([(8 : Int), (64 : Int)] : List Int))) (EvL.listS (t := (.ok (8 : Int))) (ts := (.ok ((64 : Int) :: ([] : List Int)))) (Ev.int 8) (EvL.listS (t := (.ok (64 : Int))) (ts := (.ok ([] : List Int))) (Ev.int 64) (EvL.list0 (α := Int))))))) (Ev.call (t := (fun a : (Drw × (Int × Unit)) => m__law_draw a.1 a.2.1)) (ts := (.ok (Drw.mk, ((2 : Int), ())))) rfl (EvL.cons (α := Drw) (A := (Int × Unit)) (t := (.ok Drw.mk)) (ts := (.ok ((2 : Int), ()))) (Ev.var rfl) (EvL.cons (α := Int) (A := Unit) (t := (.ok (2 : Int))) (ts := (.ok ())) (Ev.int 2) EvL.nil)))) EvL.nil))) (fun u5 => (Bd.tup rfl rfl (.cons (Bd.v rfl) (.cons (Bd.v rfl) .nil)))) fun u5 => (let width := u5.a
  let taps := u5.b
  Sv.bnd (t1 := (m_Press___init__ (Tc.d width) (Tc.d taps))) rfl .nil (Ev.new (t := (fun a : (D × (D × Unit)) => m_Press___init__ a.1 a.2.1)) (ts := (.ok ((Tc.d width), ((Tc.d taps), ())))) rfl (fun v => ⟨_, rfl⟩) (EvL.cons (α := D) (A := (D × Unit)) (t := (.ok (Tc.d width))) (ts := (.ok ((Tc.d taps), ()))) (Ev.dyn (t := .ok width) (Ev.var rfl)) (EvL.cons (α := D) (A := Unit) (t := (.ok (Tc.d taps))) (ts := (.ok ())) (Ev.dyn (t := .ok taps) (Ev.var rfl)) EvL.nil))) fun press => (Sv.ifdP (c := (!(decide ((T2.mk press.width press.taps) = (T2.mk width taps))))) (Ev.not (tb := (.ok (decide ((T2.mk press.width press.taps) = (T2.mk width taps))))) (Ev.same rfl (by decide) (t1 := (.ok (T2.mk press.width press.taps))) (t2 := (.ok (T2.mk width taps))) (Ev.t2 (t1 := (.ok press.width)) (t2 := (.ok press.taps)) (Ev.fld (fun v : C_Press => v.width) fl_Press_width (.head _) (t := (.ok press)) (Ev.var rfl)) (Ev.fld (fun v : C_Press => v.taps) fl_Press_taps (.tail _ (.head _)) (t := (.ok press)) (Ev.var rfl))) (Ev.t2 (t1 := (.ok width)) (t2 := (.ok taps)) (Ev.var rfl) (Ev.var rfl)))) (Sv.ret (t := (.ok false)) .nil (fun _ => rfl) (Ev.bl false)) (Sv.bnd (t1 := (m__law_bits_of Drw.mk width)) rfl .nil (Ev.call (t := (fun a : (Drw × (Int × Unit)) => m__law_bits_of a.1 a.2.1)) (ts := (.ok (Drw.mk, (width, ())))) rfl (EvL.cons (α := Drw) (A := (Int × Unit)) (t := (.ok Drw.mk)) (ts := (.ok (width, ()))) (Ev.var rfl) (EvL.cons (α := Int) (A := Unit) (t := (.ok width)) (ts := (.ok ())) (Ev.var rfl) EvL.nil))) fun state => (Sv.bnd (t1 := (m__law_bits_of Drw.mk width)) rfl .nil (Ev.call (t := (fun a : (Drw × (Int × Unit)) => m__law_bits_of a.1 a.2.1)) (ts := (.ok (Drw.mk, (width, ())))) rfl (EvL.cons (α := Drw) (A := (Int × Unit)) (t := (.ok Drw.mk)) (ts := (.ok (width, ()))) (Ev.var rfl) (EvL.cons (α := Int) (A := Unit) (t := (.ok width)) (ts := (.ok ())) (Ev.var rfl) EvL.nil))) fun word => (Sv.weak (wp_law_6 F width taps press state word) (.junk (.same (.same (.same (.same (.same (.same (.junk (.junk (.junk (.junk (.junk (.junk (.junk (.junk .nil))))))))))))))))))))) hm
end DS
/-! LMpress: presses' mirrors -/
namespace DS
open PySem
abbrev bi (l : List Bt) : List Int := l.map Bt.i
theorem bi_inj : ∀ {u w : List Bt}, bi u = bi w → u = w
  | [], [], _ => rfl
  | [], _ :: _, h => by cases h
  | _ :: _, [], h => by cases h
  | x :: u, y :: w, h => by
    obtain ⟨h1, h2⟩ := List.cons.inj h
    rw [Bt.inj h1, bi_inj h2]
theorem int_in (i lo hi : Int) : m_is_integer (Tc.d i) lo hi = .ok (decide (lo ≤ i ∧ i ≤ hi)) := by
  show (if decide (lo ≤ i) = true then Rs.ok (decide (i ≤ hi)) else .ok false) = _
  by_cases h : lo ≤ i
  · rw [decide_eq_true h, if_pos rfl]
    congr 1
    exact decide_eq_decide.mpr ⟨fun k => ⟨h, k⟩, fun k => k.2⟩
  · rw [decide_eq_false h, if_neg Bool.false_ne_true, decide_eq_false fun k => h k.1]
theorem bit_in (x : Bt) : m_is_bit (Tc.d x.i) = .ok true := by
  unfold m_is_bit
  rw [int_in, decide_eq_true x.lo]
theorem bits_are (w : List Bt) (n : Int) : m_are_bits (Tc.d (bi w)) n = .ok (decide ((w.length : Int) = n)) := by
  show (if (!decide ((((bi w).map Tc.d).length : Int) = n)) = true then Rs.ok false else (((((Rs.mapR (fun item : D => m_is_bit item) ((bi w).map Tc.d)).bind fun ys => .ok (Li.mk ys)).map Li.l).bind fun z5 => .ok (z5.all id)) : Rs Bool)) = _
  have h : Rs.mapR (fun item : D => m_is_bit item) ((bi w).map Tc.d) = .ok (((bi w).map Tc.d).map fun _ => true) := Rs.mapR_eq fun x hx => by
    obtain ⟨y, hy, rfl⟩ := List.mem_map.mp hx
    obtain ⟨z, hz, rfl⟩ := List.mem_map.mp hy
    exact bit_in z
  rw [h, List.length_map, List.length_map]
  by_cases e : (w.length : Int) = n
  · rw [decide_eq_true e]
    show Rs.ok _ = _
    congr 1
    rw [List.all_eq_true]
    intro b hb
    obtain ⟨_, _, rfl⟩ := List.mem_map.mp hb
    rfl
  · rw [decide_eq_false e]; rfl
def Prs.c (p : Prs) : C_Press := ⟨p.n, p.taps.map fun t : Nat => (t : Int)⟩
theorem zipx : ∀ (u w : List Bt), ((zip2 (bi u) (bi w)).map fun p6 : (T2 Int Int) => bxor p6.a p6.b) = bi (xorL u w)
  | [], _ => by simp [zip2, xorL]
  | _ :: _, [] => by simp [zip2, xorL]
  | x :: u, y :: w => by
    have := zipx u w
    unfold zip2 at this ⊢
    show (List.zipWith T2.mk (x.i :: bi u) (y.i :: bi w)).map _ = _
    rw [List.zipWith_cons_cons, List.map_cons, this]
    show Builtin.bitXor x.i y.i :: _ = (x.xor y).i :: _
    rw [bt_xor]; rfl
theorem sumA (taps : List Nat) (st : List Bt) : (taps.map fun t => (st.getD t ⟨false⟩).i).sum ≥ 0 := by
  induction taps with
  | nil => exact Int.le_refl _
  | cons t r ih => rw [List.map_cons, List.sum_cons]; have := (st.getD t ⟨false⟩).lo.1; omega
theorem band1 (s : Int) (h : 0 ≤ s) : band s 1 = (⟨decide (s % 2 = 1)⟩ : Bt).i := by
  show Builtin.bitAnd s 1 = _
  rw [PyProof.Rows.bitAnd_m1]
  unfold Bt.i
  rcases Int.emod_two_eq s with h | h <;> rw [h] <;> rfl
theorem enum_mem {α : Type} : ∀ {l : List α} {k : Int} {z : T2 Int α}, z ∈ enumF k l → ∃ i : Nat, z.a = k + i ∧ l[i]? = some z.b
  | x :: l, k, z, h => by
    rcases List.mem_cons.mp h with e | e
    · subst e; exact ⟨0, by simp, rfl⟩
    · obtain ⟨i, h1, h2⟩ := enum_mem e
      exact ⟨i + 1, by rw [h1]; omega, h2⟩
theorem bits_wp {n : Nat} {Q : List Int → Prop} {X : XD → Prop} (hn : n ≤ 16777216) (k : ∀ w : List Bt, w.length = n → Q (bi w)) : (m__law_bits_of Drw.mk (n : Int)).wp Q X := by
  unfold m__law_bits_of
  rw [rng_ok (by omega) (by omega)]
  show ((Rs.mapR _ (irange (n : Int))).bind _).bind _ |>.wp _ _
  rw [Rs.bind_assoc]
  refine Rs.wpB (Rs.mapR_wp (P := fun _ v => ∃ b : Bt, v = b.i) fun x _ => draw_wp (by decide) (by decide) fun v hv => bt_of (by omega) (by omega)) fun ys hys => ?_
  have hl := all2_len hys
  rw [irange_nat, List.length_map, List.length_range] at hl
  have : ∀ ys : List Int, (∀ y ∈ ys, ∃ b : Bt, y = b.i) → ∃ w : List Bt, ys = bi w := by
    intro ys
    induction ys with
    | nil => intro _; exact ⟨[], rfl⟩
    | cons y r ih =>
      intro h
      obtain ⟨b, hb⟩ := h y (List.mem_cons_self ..)
      obtain ⟨w, hw⟩ := ih fun z hz => h z (List.mem_cons_of_mem _ hz)
      exact ⟨b :: w, by rw [hb, hw]; rfl⟩
  obtain ⟨w, rfl⟩ := this ys fun y hy => by obtain ⟨_, _, h⟩ := all2_mem hys hy; exact h
  exact k w (by rw [List.length_map] at hl; exact hl)
theorem all2_eq {α : Type} {xs ys : List α} (h : All2 (fun x y => y = x) xs ys) : ys = xs := by
  induction h with
  | nil => rfl
  | cons e _ ih => rw [e, ih]
theorem lawpress_wp {most : Int} {Q : T2 Int (List Int) → Prop} {X : XD → Prop} (h0 : 0 < most) (h1 : most ≤ 64) (k : ∀ p : Prs, (p.n : Int) ≤ most → Q ⟨p.n, p.taps.map fun t : Nat => (t : Int)⟩) : (m__law_press Drw.mk most).wp Q X := by
  unfold m__law_press
  rw [Rs.bind_assoc]
  refine Rs.wpB (draw_wp (Q := fun z => ∃ v : Nat, z = v ∧ (v : Int) < most) h0 (by omega) fun v hv => ⟨v, rfl, hv⟩) ?_
  rintro _ ⟨v, rfl, hv⟩
  rw [Rs.okb, show (1 : Int) + v - 1 = v by omega, rng_ok (by omega) (by omega), Rs.okb, Rs.bind_assoc, Rs.bind_assoc]
  refine Rs.wpB (Rs.comp_wp (P := fun x y => y = x) fun x _ => ?_) ?_
  · rw [Rs.wp_bind]
    exact draw_wp (by decide) (by decide) fun w hw _ => rfl
  rintro _ ⟨zs, hs, ha⟩
  rw [all2_eq ha]
  rw [irange_nat] at hs
  obtain ⟨ks, hk, rfl⟩ := List.sublist_map_iff.mp hs
  have hl := hk.length_le
  rw [List.length_range] at hl
  have hlt : ∀ t ∈ ks, t < v := fun t ht => List.mem_range.mp (hk.subset ht)
  rw [Rs.okb]
  refine Rs.wpE (catLi_ok (by simp; omega)) ?_
  show Q ⟨_, ks.map (fun t : Nat => (t : Int)) ++ [(v : Int)]⟩
  have := k ⟨v + 1, ks ++ [v], by omega, by omega, ?_, by simp⟩ (by show ((v + 1 : Nat) : Int) ≤ most; omega)
  · rw [List.map_append] at this
    rw [show (1 + (v : Int)) = ((v + 1 : Nat) : Int) by omega]
    exact this
  · rw [List.pairwise_append]
    refine ⟨List.pairwise_lt_range.sublist hk, List.pairwise_singleton _ _, fun x hx y hy => by rw [List.mem_singleton.mp hy]; exact hlt x hx⟩
/-- rows of bits -/
abbrev bis (l : List (List Bt)) : Li (List Int) := ⟨l.map bi⟩
theorem bis_inj {u w : List (List Bt)} (h : u.map bi = w.map bi) : u = w := by
  induction u generalizing w with
  | nil => cases w with | nil => rfl | cons _ _ => cases h
  | cons x u ih => cases w with
    | nil => cases h
    | cons y w => obtain ⟨h1, h2⟩ := List.cons.inj h; rw [bi_inj h1, ih h2]
theorem dec_bi (u w : List Bt) : decide (bi u = bi w) = decide (u = w) := decide_eq_decide.mpr ⟨bi_inj, fun e => by rw [e]⟩
theorem rows_of {ys : List (List Int)} {n : Nat} (h : ∀ y ∈ ys, ∃ w : List Bt, y = bi w ∧ w.length = n) : ∃ ws : List (List Bt), ys = ws.map bi ∧ ∀ w ∈ ws, w.length = n := by
  induction ys with
  | nil => exact ⟨[], rfl, fun w h => by cases h⟩
  | cons y r ih =>
    obtain ⟨b, hb, hn⟩ := h y (List.mem_cons_self ..)
    obtain ⟨w, hw, hm⟩ := ih fun z hz => h z (List.mem_cons_of_mem _ hz)
    exact ⟨b :: w, by rw [hb, hw]; rfl, fun z hz => by rcases List.mem_cons.mp hz with e | e; exact e ▸ hn; exact hm z e⟩
theorem rows_wp {n : Nat} {f : Int → Rs (List Int)} {xs : List Int} {Q : Li (List Int) → Prop} {X : XD → Prop} (hf : ∀ x ∈ xs, (f x).wp (fun y => ∃ w : List Bt, y = bi w ∧ w.length = n) fun _ => False) (k : ∀ ws : List (List Bt), ws.length = xs.length → (∀ w ∈ ws, w.length = n) → Q (bis ws)) :
    ((Rs.mapR f xs).bind fun ys => .ok (Li.mk ys)).wp Q X := by
  refine Rs.wpB (Rs.mapR_wp hf) fun ys hys => ?_
  have hl := all2_len hys
  obtain ⟨ws, rfl, hw⟩ := rows_of fun y hy => by obtain ⟨_, _, h⟩ := all2_mem hys hy; exact h
  rw [List.length_map] at hl
  exact k ws hl hw
theorem addP_len {one other : List (List Bt)} {n : Nat} (h1 : ∀ w ∈ one, w.length = n) (h2 : ∀ w ∈ other, w.length = n) : ∀ w ∈ addP one other, w.length = n := fun w hw => by
  obtain ⟨z, hz, rfl⟩ := List.mem_map.mp hw
  have := List.of_mem_zip hz
  rw [xorL_len (by rw [h1 _ this.1, h2 _ this.2]), h1 _ this.1]
theorem after_ok (p : Prs) {st wd : List Bt} (h1 : st.length = p.n) (h2 : wd.length = p.n) : m__law_after p.n p.c.taps (bi st) (bi wd) = .ok (bi (stepP p.taps st wd)) := by
  have h0 := p.h0
  have h64 := p.h64
  unfold m__law_after
  have hf : ∀ (ts : List Nat) (b : Int), (∀ t ∈ ts, t < p.n) → Rs.fold (fun (s : Int) (tap : Int) => ((ixR (bi st) tap).bind fun z1 => .ok (s + z1)).bind fun back => .ok back) (ts.map fun t : Nat => (t : Int)) b = .ok (b + (ts.map fun t => (st.getD t ⟨false⟩).i).sum) := by
    intro ts
    induction ts with
    | nil => intro b _; show Rs.ok b = _; simp
    | cons t r ih =>
      intro b h
      rw [List.map_cons]
      unfold Rs.fold
      have ht := h t (List.mem_cons_self ..)
      rw [ix_at' (v := (st.getD t ⟨false⟩).i) (by rw [List.getElem?_map, List.getD_eq_getElem?_getD, List.getElem?_eq_getElem (by omega)]; rfl)]
      refine (ih _ fun x hx => h x (List.mem_cons_of_mem _ hx)).trans ?_
      rw [List.map_cons, List.sum_cons]
      congr 1; omega
  refine Rs.bindE (hf p.taps 0 fun t ht => p.lt ht) |>.trans ?_
  rw [Int.zero_add, rng_ok (by omega) (by omega), Rs.okb]
  have par : ((p.taps.map fun t => (st.getD t ⟨false⟩).i).sum) % 2 = (parP p.taps st).i := by
    unfold parP Bt.i
    rcases Int.emod_two_eq ((p.taps.map fun t => (if (st.getD t ⟨false⟩).b = true then (1 : Int) else 0)).sum) with h | h
    · rw [h]; rfl
    · rw [h]; rfl
  generalize (p.taps.map fun t => (st.getD t ⟨false⟩).i).sum = back at par ⊢
  have hg := Rs.fold_app (f := fun (s : List Int) (k' : Int) => (((if (decide (k' = (0 : Int))) then (Rs.ok back) else (ixR (bi st) (k' - (1 : Int)))).bind fun z2 => (ixR (bi wd) k').bind fun z3 => .ok (z2 + z3)).bind fun z4 => .ok (z4 % 2)).bind fun z5 => (appR s z5).bind fun rows => .ok rows)
    (g := fun k : Int => (((parP p.taps st :: st.dropLast).getD k.toNat ⟨false⟩).xor (wd.getD k.toNat ⟨false⟩)).i) (xs := irange (p.n : Int)) (s := []) (by rw [irange_nat, List.length_map, List.length_range]; simp; omega) fun s x hx hs => by
      obtain ⟨i, hi, rfl⟩ := List.mem_map.mp (show x ∈ (List.range p.n).map fun i : Nat => (i : Int) from hx)
      rw [List.mem_range] at hi
      have w1 : ixR (bi wd) (i : Int) = .ok (wd.getD i ⟨false⟩).i := ix_at' (by rw [List.getElem?_map, List.getD_eq_getElem?_getD, List.getElem?_eq_getElem (by omega)]; rfl)
      rw [w1, Int.toNat_natCast]
      have hx : (if (decide ((i : Int) = (0 : Int))) then (Rs.ok back) else (ixR (bi st) ((i : Int) - (1 : Int)))) = .ok (if i = 0 then back else (st.getD (i - 1) ⟨false⟩).i) := by
        by_cases e : i = 0
        · subst e; rfl
        · rw [decide_eq_false (by omega), if_neg Bool.false_ne_true, if_neg e, show (i : Int) - 1 = ((i - 1 : Nat) : Int) by omega]
          exact ix_at' (by rw [List.getElem?_map, List.getD_eq_getElem?_getD, List.getElem?_eq_getElem (by omega)]; rfl)
      rw [hx]
      show (appR s _).bind _ = _
      rw [app_ok hs]
      show Rs.ok (s ++ [_]) = .ok (s ++ [_])
      congr 3
      generalize wd.getD i ⟨false⟩ = w
      have : ((parP p.taps st :: st.dropLast).getD i ⟨false⟩).i = (if i = 0 then back else (st.getD (i - 1) ⟨false⟩).i) % 2 := by
        cases i with
        | zero => rw [List.getD_cons_zero, if_pos rfl, par]
        | succ i =>
          rw [List.getD_cons_succ, if_neg (by omega), show i + 1 - 1 = i by omega]
          have e : st.dropLast.getD i ⟨false⟩ = st.getD i ⟨false⟩ := by
            rw [List.getD_eq_getElem?_getD, List.getD_eq_getElem?_getD, List.dropLast_eq_take, List.getElem?_take, if_pos (by omega)]
          rw [e]
          have := (st.getD i ⟨false⟩).lo
          omega
      have b1 := bi_mod ((parP p.taps st :: st.dropLast).getD i ⟨false⟩) w
      have b2 := (((parP p.taps st :: st.dropLast).getD i ⟨false⟩).xor w).lo
      omega
  refine Rs.bindE hg |>.trans ?_
  show Rs.ok _ = .ok _
  congr 1
  rw [List.nil_append, irange_nat, List.map_map]
  unfold stepP bi
  rw [List.map_map]
  show _ = ((parP p.taps st :: st.dropLast).zip wd).map fun z => (z.1.xor z.2).i
  rw [zip_map (fun a b => (a.xor b).i) ⟨false⟩ ⟨false⟩ (parP p.taps st :: st.dropLast) wd (by simp; omega), List.length_cons, List.length_dropLast, show st.length - 1 + 1 = p.n by omega]
  rfl
end DS

/-! LM60: presses, any arguments -/
namespace DS
open PySem
theorem dn_bi (l : List Bt) : (Dn.dn (α := List Int) (Tc.d (bi l))) = some (bi l) := dnL_map (α := Int) (fun _ => rfl) _
theorem step_ok (p : Prs) {st wd : List Bt} (h1 : st.length = p.n) (h2 : wd.length = p.n) : m_Press_step p.c (Tc.d (bi st)) (Tc.d (bi wd)) = .ok (bi (stepP p.taps st wd)) := by
  have h0 := p.h0
  have h64 := p.h64
  unfold m_Press_step
  simp only [dn_bi, Rs.of, Rs.okb]
  rw [show p.c.width = ((p.n : Nat) : Int) from rfl, bits_are, bits_are, decide_eq_true (by omega), decide_eq_true (by omega)]
  have hm : Rs.mapR (fun tap : Int => ixR (bi st) tap) p.c.taps = .ok (p.c.taps.map fun tap => (st.getD tap.toNat ⟨false⟩).i) := Rs.mapR_eq fun x hx => by
    obtain ⟨t, ht, rfl⟩ := List.mem_map.mp hx
    have := p.lt ht
    refine ix_at' ?_
    rw [List.getElem?_map, List.getElem?_eq_getElem (by omega), Int.toNat_natCast, List.getD_eq_getElem?_getD, List.getElem?_eq_getElem (by omega)]; rfl
  rw [hm]
  show ((catR [band (p.c.taps.map fun tap => (st.getD tap.toNat ⟨false⟩).i).sum 1] (cutD (bi st) none (some (-(1 : Int))))).bind fun moved => _) = _
  rw [cut_last', ← List.map_dropLast, cat_ok (by simp; omega)]
  have e1 : (p.c.taps.map fun tap => (st.getD tap.toNat ⟨false⟩).i) = p.taps.map fun t => (st.getD t ⟨false⟩).i := by
    show (p.taps.map _).map _ = _
    rw [List.map_map]; rfl
  rw [e1, band1 _ (sumA _ _)]
  show Rs.ok ((zip2 (bi (parP p.taps st :: st.dropLast)) (bi wd)).map _) = _
  rw [zipx]; rfl
theorem press_ok (p : Prs) {ws : List (List Bt)} (h : ∀ w ∈ ws, w.length = p.n) : m_Press_press p.c ⟨(ws.map bi).map Tc.d⟩ = .ok (bi (pressP p.n p.taps ws)) := by
  have h0 := p.h0
  have h64 := p.h64
  unfold m_Press_press
  rw [show p.c.width = ((p.n : Nat) : Int) from rfl, rep1_ok (by omega), Rs.okb]
  have key : ∀ (ws : List (List Bt)) (st : List Bt), st.length = p.n → (∀ w ∈ ws, w.length = p.n) → Rs.fold (fun (s : List Int) (word : D) => (m_Press_step p.c (Tc.d s) word).bind fun s => .ok s) ((ws.map bi).map Tc.d) (bi st) = .ok (bi (ws.foldl (stepP p.taps) st)) := by
    intro ws
    induction ws with
    | nil => intro st _ _; rfl
    | cons w ws ih =>
      intro st hs hw
      have hw1 := hw w (List.mem_cons_self ..)
      rw [List.map_cons, List.map_cons]
      unfold Rs.fold
      rw [step_ok p hs hw1]
      exact ih _ (by rw [step_len (by omega) (by omega)]; exact hw1) fun x hx => hw x (List.mem_cons_of_mem _ hx)
  have e : (List.replicate p.n (0 : Int)) = bi (List.replicate p.n ⟨false⟩) := by rw [bi, List.map_replicate]; rfl
  rw [e]
  exact Rs.bindE (key ws _ List.length_replicate h)
theorem sign_ok (p : Prs) {ws : List (List Bt)} (h : ∀ w ∈ ws, w.length = p.n) : m__law_signature p.n p.c.taps ⟨ws.map bi⟩ = .ok (bi (pressP p.n p.taps ws)) := by
  have h0 := p.h0
  have h64 := p.h64
  unfold m__law_signature
  rw [rep1_ok (by omega), Rs.okb]
  have key : ∀ (ws : List (List Bt)) (st : List Bt), st.length = p.n → (∀ w ∈ ws, w.length = p.n) → Rs.fold (fun (s : List Int) (word : List Int) => (m__law_after p.n p.c.taps s word).bind fun s => .ok s) (ws.map bi) (bi st) = .ok (bi (ws.foldl (stepP p.taps) st)) := by
    intro ws
    induction ws with
    | nil => intro st _ _; rfl
    | cons w ws ih =>
      intro st hs hw
      have hw1 := hw w (List.mem_cons_self ..)
      rw [List.map_cons]
      unfold Rs.fold
      rw [after_ok p hs hw1]
      exact ih _ (by rw [step_len (by omega) (by omega)]; exact hw1) fun x hx => hw x (List.mem_cons_of_mem _ hx)
  have e : (List.replicate p.n (0 : Int)) = bi (List.replicate p.n ⟨false⟩) := by rw [bi, List.map_replicate]; rfl
  rw [e]
  exact Rs.bindE (key ws _ List.length_replicate h)
/-- words that a step refuses -/
def Bad (p : Prs) (d : D) : Prop := m_are_bits d p.n = .ok false
theorem step_bad (p : Prs) {st : List Bt} (h : st.length = p.n) {d : D} (hd : Bad p d) : m_Press_step p.c (Tc.d (bi st)) d = .ex ("BadSignature", []) := by
  unfold m_Press_step
  rw [show p.c.width = ((p.n : Nat) : Int) from rfl, bits_are, decide_eq_true (by omega)]
  show ((((m_are_bits d p.n).bind _)).bind _) = _
  rw [hd]; rfl
theorem step_bad2 (p : Prs) {d e : D} (hd : Bad p d) : m_Press_step p.c d e = .ex ("BadSignature", []) := by
  unfold m_Press_step
  rw [show p.c.width = ((p.n : Nat) : Int) from rfl, hd]; rfl
theorem press_bad (p : Prs) {d : D} (hd : Bad p d) : m_Press_press p.c ⟨[d]⟩ = .ex ("BadSignature", []) := by
  have h64 := p.h64
  unfold m_Press_press
  rw [show p.c.width = ((p.n : Nat) : Int) from rfl, rep1_ok (by omega), Rs.okb]
  have e : (List.replicate p.n (0 : Int)) = bi (List.replicate p.n ⟨false⟩) := by rw [bi, List.map_replicate]; rfl
  rw [e]
  show Rs.bind (Rs.bind (Rs.bind (m_Press_step p.c (Tc.d (bi (List.replicate p.n ⟨false⟩))) d) _) _) _ = _
  rw [step_bad p List.length_replicate hd]; rfl
/-- responses that a fold refuses -/
def Odd (d : D) : Prop := ∀ p : Prs, m_Press_fold p.c d = .ex ("BadSignature", [])
theorem refuse0 (p : Prs) {st : List Bt} (h : st.length = p.n) {d : D} (hd : Bad p d) : m__law_refused p.c 0 (Tc.d (bi st)) d = .ok true := by
  unfold m__law_refused
  rw [decide_eq_true rfl, if_pos rfl, step_bad p h hd]; rfl
theorem refuse0' (p : Prs) {d e : D} (hd : Bad p d) : m__law_refused p.c 0 d e = .ok true := by
  unfold m__law_refused
  rw [decide_eq_true rfl, if_pos rfl, step_bad2 p hd]; rfl
theorem refuse1 (p : Prs) {d e : D} (hd : Bad p d) : m__law_refused p.c 1 e d = .ok true := by
  unfold m__law_refused
  rw [decide_eq_false (by decide), if_neg Bool.false_ne_true, decide_eq_true rfl, if_pos rfl, press_bad p hd]; rfl
theorem refuse2 (p : Prs) {d e : D} (hd : Odd d) : m__law_refused p.c 2 e d = .ok true := by
  unfold m__law_refused
  rw [decide_eq_false (by decide), if_neg Bool.false_ne_true, decide_eq_false (by decide), if_neg Bool.false_ne_true, decide_eq_true rfl, if_pos rfl, hd p]; rfl
theorem odd_all : ∀ d ∈ ([Tc.d (T2.mk (0 : Int) (2 : Int)), Tc.d (T1.mk true), Tc.d (Li.mk ([(0 : Int), (1 : Int)] : List Int)), D.non, Tc.d ("01" : String), Tc.d (T2.mk (0 : Int) D.non)] : List D), Odd d := by
  intro d hd p
  simp only [List.mem_cons, List.not_mem_nil, or_false] at hd
  rcases hd with e | e | e | e | e | e <;> subst e <;> rfl
theorem wrong_all : ∀ z ∈ ([T2.mk (Tc.d (0 : Int)) (Tc.d (T1.mk (0 : Int))), T2.mk (Tc.d (65 : Int)) (Tc.d (T1.mk (64 : Int))), T2.mk (Tc.d true) (Tc.d (T1.mk (0 : Int))), T2.mk (Tc.d (3 : Int)) (Tc.d ([] : List Int)), T2.mk (Tc.d (3 : Int)) (Tc.d (T2.mk (0 : Int) (1 : Int))), T2.mk (Tc.d (3 : Int)) (Tc.d (T2.mk (2 : Int) (2 : Int))), T2.mk (Tc.d (3 : Int)) (Tc.d (T3.mk (1 : Int) (0 : Int) (2 : Int))), T2.mk (Tc.d (3 : Int)) (Tc.d (T2.mk (0 : Int) (3 : Int))), T2.mk (Tc.d (3 : Int)) (Tc.d (Li.mk ([(2 : Int)] : List Int))), T2.mk (Tc.d (3 : Int)) (Tc.d (T2.mk (-(1 : Int)) (2 : Int))), T2.mk D.non (Tc.d (T1.mk (0 : Int))), T2.mk (Tc.d (3 : Int)) (Tc.d (T2.mk true (2 : Int))), T2.mk (Tc.d (3 : Int)) D.non, T2.mk (Tc.d (2 : Int)) (Tc.d (T2.mk (0 : Int) ("1" : String))), T2.mk (Tc.d ("3" : String)) (Tc.d (T1.mk (2 : Int)))] : List (T2 D D)), m__law_made z.a z.b = .ok "refused" := by
  intro d hd
  simp only [List.mem_cons, List.not_mem_nil, or_false] at hd
  rcases hd with e | e | e | e | e | e | e | e | e | e | e | e | e | e | e <;> subst e <;> first | rfl | kernel_rfl
theorem made64 : m__law_made (Tc.d (64 : Int)) (Tc.d (T1.mk (63 : Int))) = .ok "made" := rfl
theorem made1 : m__law_made (Tc.d (1 : Int)) (Tc.d (T1.mk (0 : Int))) = .ok "made" := rfl
theorem bad_len (p : Prs) {w : List Bt} (h : w.length ≠ p.n) : Bad p (Tc.d (bi w)) := by
  unfold Bad
  rw [bits_are, decide_eq_false (by omega)]
theorem bad_list (p : Prs) (w : List Int) : Bad p (Tc.d (Li.mk w)) := rfl
theorem bad_non (p : Prs) : Bad p D.non := rfl
theorem bad_last (p : Prs) {w : List Bt} (hl : w.length + 1 = p.n) {x : D} (hx : m_is_bit x = .ok false) : Bad p (.tup ((bi w).map Tc.d ++ [x])) := by
  unfold Bad
  show (if (!decide ((((bi w).map Tc.d ++ [x]).length : Int) = (p.n : Int))) = true then Rs.ok false else (((((Rs.mapR (fun item : D => m_is_bit item) ((bi w).map Tc.d ++ [x])).bind fun ys => .ok (Li.mk ys)).map Li.l).bind fun z5 => .ok (z5.all id)) : Rs Bool)) = _
  have h : Rs.mapR (fun item : D => m_is_bit item) ((bi w).map Tc.d ++ [x]) = .ok (((bi w).map Tc.d ++ [x]).map fun d => match m_is_bit d with | .ok b => b | _ => false) := Rs.mapR_eq fun y hy => by
    rcases List.mem_append.mp hy with e | e
    · obtain ⟨z, hz, rfl⟩ := List.mem_map.mp e
      obtain ⟨b, hb, rfl⟩ := List.mem_map.mp hz
      rw [bit_in]
    · rw [List.mem_singleton.mp e, hx]
  rw [h, decide_eq_true (by simp; omega)]
  show Rs.ok _ = _
  congr 1
  rw [List.map_append, List.all_append]
  show ((_ : Bool) && ([match m_is_bit x with | .ok b => b | _ => false].all id)) = false
  rw [hx]
  exact Bool.and_false _
/-- what a response is folded to -/
def foldI (n : Nat) (row : List Bt) : List Int := (List.range n).map fun k => ((((List.range row.length).filter fun j => decide (j % n = k)).map fun j => (row.getD j ⟨false⟩).i).sum) % 2
theorem foldI_add {n : Nat} (h0 : 0 < n) (row : List Bt) (b : Bt) : foldI n (row ++ [b]) = (foldI n row).set (row.length % n) (bxor ((foldI n row).getD (row.length % n) 0) b.i) := by
  have hlt := Nat.mod_lt row.length h0
  apply List.ext_getElem
  · unfold foldI; simp
  intro k h1 h2
  have hk : k < n := by unfold foldI at h1; simpa using h1
  have e1 : ∀ (r : List Bt) (h : k < (foldI n r).length), (foldI n r)[k] = ((((List.range r.length).filter fun j => decide (j % n = k)).map fun j => (r.getD j ⟨false⟩).i).sum) % 2 := fun r h => by unfold foldI; simp
  rw [e1, List.getElem_set]
  have hs : ((((List.range (row ++ [b]).length).filter fun j => decide (j % n = k)).map fun j => ((row ++ [b]).getD j ⟨false⟩).i).sum) = ((((List.range row.length).filter fun j => decide (j % n = k)).map fun j => (row.getD j ⟨false⟩).i).sum) + if row.length % n = k then b.i else 0 := by
    rw [List.length_append, List.length_singleton, List.range_succ, List.filter_append, List.map_append, List.sum_append]
    congr 1
    · congr 1
      refine List.map_congr_left fun j hj => ?_
      have := List.mem_range.mp (List.mem_filter.mp hj).1
      rw [List.getD_eq_getElem?_getD, List.getD_eq_getElem?_getD, List.getElem?_append_left this]
    · by_cases h : row.length % n = k
      · rw [if_pos h, List.filter_cons_of_pos (by simpa using h)]
        simp
      · rw [if_neg h, List.filter_cons_of_neg (by simpa using h)]
        simp
  rw [hs]
  by_cases h : row.length % n = k
  · subst h
    rw [if_pos rfl, if_pos rfl]
    have e2 : (foldI n row).getD (row.length % n) 0 = ((((List.range row.length).filter fun j => decide (j % n = row.length % n)).map fun j => (row.getD j ⟨false⟩).i).sum) % 2 := by
      unfold foldI
      rw [List.getD_eq_getElem?_getD, List.getElem?_map, List.getElem?_range hlt]; rfl
    rw [e2]
    generalize ((((List.range row.length).filter fun j => decide (j % n = row.length % n)).map fun j => (row.getD j ⟨false⟩).i).sum) = s
    obtain ⟨b⟩ := b
    rcases Int.emod_two_eq s with h | h <;> cases b
    · rw [h]; show (s + 0) % 2 = _; rw [Int.add_zero, h]; decide
    · rw [h]; show (s + 1) % 2 = _; rw [show (s + 1) % 2 = 1 by omega]; decide
    · rw [h]; show (s + 0) % 2 = _; rw [Int.add_zero, h]; decide
    · rw [h]; show (s + 1) % 2 = _; rw [show (s + 1) % 2 = 0 by omega]; decide
  · rw [if_neg h, if_neg h, Int.add_zero, e1 row (by unfold foldI; simpa using hk)]
theorem foldI_len (n : Nat) (row : List Bt) : (foldI n row).length = n := by unfold foldI; simp
theorem foldI_nil (n : Nat) : foldI n [] = List.replicate n 0 := by
  unfold foldI
  apply List.ext_getElem
  · simp
  · intro k h1 h2; simp
theorem pfold_ok (p : Prs) (row : List Bt) (hr : row.length ≤ 1000) : m_Press_fold p.c (Tc.d (bi row)) = .ok (foldI p.n row) := by
  have h0 := p.h0
  have h64 := p.h64
  unfold m_Press_fold
  simp only [dn_bi, Rs.of, Rs.okb]
  show Rs.bind (Rs.bind (m_are_bits (Tc.d (bi row)) (((bi row).map (Tc.d (α := Int))).length : Int)) _) _ = _
  rw [bits_are, List.length_map, List.length_map, decide_eq_true rfl]
  show (Rs.bind (Rs.bind (repLi (Li.mk [(0 : Int)]) ((p.n : Nat) : Int)) _) _) = _
  rw [repLi1_ok (by omega), Rs.okb, Rs.okb, ← foldI_nil]
  have key : ∀ (suf pre : List Bt), pre.length + suf.length ≤ 1000 → Rs.fold (fun (s : List Int) (p9 : T2 Int Int) => (((divR p9.a ((p.n : Nat) : Int)).bind fun z10 => mulR z10 ((p.n : Nat) : Int)).bind fun z11 => .ok (p9.a - z11)).bind fun z12 => (ixR s z12).bind fun z13 => (setR s z12 (bxor z13 p9.b)).bind fun word => .ok word) (enumF (pre.length : Int) (bi suf)) (foldI p.n pre) = .ok (foldI p.n (pre ++ suf)) := by
    intro suf
    induction suf with
    | nil => intro pre _; rw [List.append_nil]; rfl
    | cons b suf ih =>
      intro pre hl
      rw [List.length_cons] at hl
      have hlt := Nat.mod_lt pre.length h0
      show Rs.bind ((((divR (pre.length : Int) ((p.n : Nat) : Int)).bind fun z10 => mulR z10 ((p.n : Nat) : Int)).bind fun z11 => .ok ((pre.length : Int) - z11)).bind fun z12 => (ixR (foldI p.n pre) z12).bind fun z13 => (setR (foldI p.n pre) z12 (bxor z13 b.i)).bind fun word => .ok word) _ = _
      have e1 : divR (pre.length : Int) ((p.n : Nat) : Int) = .ok ((pre.length / p.n : Nat) : Int) := by
        unfold divR
        rw [gd_ok (by omega)]; rfl
      have e2 : mulR ((pre.length / p.n : Nat) : Int) ((p.n : Nat) : Int) = .ok (((pre.length / p.n : Nat) : Int) * ((p.n : Nat) : Int)) := by
        unfold mulR
        exact gd_ok (.inr ⟨by omega, by omega⟩)
      have e3 : (pre.length : Int) - ((pre.length / p.n : Nat) : Int) * ((p.n : Nat) : Int) = ((pre.length % p.n : Nat) : Int) := by
        have := Nat.div_add_mod pre.length p.n
        rw [← Int.natCast_mul, Nat.mul_comm (pre.length / p.n)]
        omega
      rw [e1, Rs.okb, e2, Rs.okb, e3, Rs.okb]
      have hx : pre.length % p.n < (foldI p.n pre).length := by rw [foldI_len]; exact hlt
      have hg : (foldI p.n pre).getD (pre.length % p.n) 0 = (foldI p.n pre)[pre.length % p.n] := by
        rw [List.getD_eq_getElem?_getD, List.getElem?_eq_getElem hx]; rfl
      rw [ix_ok hx, Rs.okb]
      have hset : setR (foldI p.n pre) ((pre.length % p.n : Nat) : Int) (bxor (foldI p.n pre)[pre.length % p.n] b.i) = .ok (foldI p.n (pre ++ [b])) := by
        unfold setR
        rw [ixN_nat hx]
        show Rs.ok ((foldI p.n pre).set _ _) = _
        rw [foldI_add h0, hg]
      rw [hset]
      have := ih (pre ++ [b]) (by rw [List.length_append, List.length_singleton]; omega)
      rw [List.length_append, List.length_singleton, List.append_assoc, List.singleton_append] at this
      exact this
  exact Rs.bindE (key row [] (by simpa using hr))
theorem count_step {n k L : Nat} (hk : k < n) : (if k < L + 1 then (L + 1 - k - 1) / n + 1 else 0) = (if k < L then (L - k - 1) / n + 1 else 0) + if L % n = k then 1 else 0 := by
  have h0 : 0 < n := by omega
  by_cases h1 : k < L
  · rw [if_pos (by omega), if_pos h1, show L + 1 - k - 1 = L - k - 1 + 1 by omega, Nat.succ_div]
    have : (n ∣ L - k - 1 + 1) ↔ L % n = k := by
      rw [show L - k - 1 + 1 = L - k by omega]
      constructor
      · rintro ⟨c, hc⟩
        rw [show L = k + n * c by omega, Nat.add_mul_mod_self_left, Nat.mod_eq_of_lt hk]
      · intro e
        exact ⟨L / n, by have := Nat.div_add_mod L n; omega⟩
    by_cases h2 : L % n = k
    · rw [if_pos (this.mpr h2), if_pos h2]
    · rw [if_neg (fun h => h2 (this.mp h)), if_neg h2]
  · rw [if_neg h1]
    by_cases h2 : L = k
    · subst h2
      rw [if_pos (by omega), Nat.mod_eq_of_lt hk, if_pos rfl, show L + 1 - L - 1 = 0 by omega, Nat.zero_div]
    · rw [if_neg (by omega), Nat.mod_eq_of_lt (by omega), if_neg h2]
theorem list_step {n k : Nat} (hk : k < n) : ∀ L : Nat, ((List.range (if k < L then (L - k - 1) / n + 1 else 0)).map fun i => k + i * n) = (List.range L).filter fun j => decide (j % n = k)
  | 0 => rfl
  | L + 1 => by
    rw [count_step hk, List.range_succ (n := L), List.filter_append, ← list_step hk L]
    by_cases h : L % n = k
    · rw [if_pos h, List.range_succ, List.map_append, List.filter_cons_of_pos (by simpa using h)]
      congr 1
      show [k + (if k < L then (L - k - 1) / n + 1 else 0) * n] = [L]
      congr 1
      have hd := Nat.div_add_mod L n
      rw [h] at hd
      by_cases h1 : k < L
      · rw [if_pos h1]
        have e : (L - k - 1) / n + 1 = L / n := by
          have hq : 1 ≤ L / n := by
            rcases Nat.eq_zero_or_pos (L / n) with z | z
            · rw [z] at hd; omega
            · exact z
          obtain ⟨q, hq2⟩ : ∃ q, L / n = q + 1 := ⟨L / n - 1, by omega⟩
          rw [hq2] at hd ⊢
          rw [Nat.mul_add] at hd
          rw [show L - k - 1 = n * q + (n - 1) by omega, Nat.mul_add_div (by omega), Nat.div_eq_of_lt (by omega)]
        rw [e, Nat.mul_comm]; omega
      · rw [if_neg h1]
        have := Nat.mod_le L n
        omega
    · rw [if_neg h, Nat.add_zero, List.filter_cons_of_neg (by simpa using h)]
      simp
theorem size_nat {n k L : Nat} (h0 : 0 < n) : Builtin.Range.rangeSize (k : Int) (L : Int) (n : Int) = ((if k < L then (L - k - 1) / n + 1 else 0 : Nat) : Int) := by
  unfold Builtin.Range.rangeSize
  rw [if_pos (by omega)]
  by_cases h : k < L
  · rw [if_pos (by omega), if_pos h, show (L : Int) - k - 1 = ((L - k - 1 : Nat) : Int) by omega]
    rfl
  · rw [if_neg (by omega), if_neg h]; rfl
theorem size_le {n k L : Nat} : (if k < L then (L - k - 1) / n + 1 else 0 : Nat) ≤ L := by
  by_cases h : k < L
  · rw [if_pos h]
    have := Nat.div_le_self (L - k - 1) n
    omega
  · rw [if_neg h]; exact Nat.zero_le _
theorem small_ok {k L n : Nat} (h0 : 0 < n) (hk : k < n) (hn : n ≤ 64) (hL : L ≤ 1000) : Builtin.Range.small (k : Int) (L : Int) (n : Int) = true := by
  have h1 := size_nat (k := k) (L := L) h0
  have h2 := size_le (n := n) (k := k) (L := L)
  unfold Builtin.Range.small Builtin.Range.rangeFitsLong
  rw [h1]
  generalize (if k < L then (L - k - 1) / n + 1 else 0 : Nat) = z at h2 ⊢
  simp only [Bool.and_eq_true, Bool.or_eq_true, decide_eq_true_eq, beq_iff_eq]
  have : (n : Int) > 0 := by omega
  rw [if_pos this]
  simp only [Bool.and_eq_true, decide_eq_true_eq]
  omega
theorem range3_ok {k L n : Nat} (hk : k < n) (hn : n ≤ 64) (hL : L ≤ 1000) : rangeR3 (k : Int) (L : Int) (n : Int) = .ok (((List.range L).filter fun j => decide (j % n = k)).map fun j : Nat => (j : Int)) := by
  have h0 : 0 < n := by omega
  have h2 := size_le (n := n) (k := k) (L := L)
  unfold rangeR3
  rw [gd_ok ⟨⟨by omega, by omega, small_ok h0 hk hn hL⟩, by rw [size_nat h0]; omega⟩]
  unfold irange3
  rw [size_nat h0, Int.toNat_natCast, ← list_step hk L, List.map_map]
  congr 1
theorem lfold_ok (p : Prs) (row : List Bt) (hr : row.length ≤ 1000) : m__law_fold p.n (bi row) = .ok (foldI p.n row) := by
  have h0 := p.h0
  have h64 := p.h64
  unfold m__law_fold
  rw [rng_ok (by omega) (by omega), Rs.okb]
  have hm := Rs.mapR_eq (f := fun k' : Int => (((((rangeR3 k' ((bi row).length : Int) ((p.n : Nat) : Int)).bind fun z1 => (Rs.mapR (fun j : Int => (ixR (bi row) j)) z1).bind fun ys => .ok (Li.mk ys)).map Li.l).bind fun z2 => .ok z2.sum).bind fun z3 => .ok (z3 % 2)))
    (g := fun k : Int => ((((List.range row.length).filter fun j => decide (j % p.n = k.toNat)).map fun j => (row.getD j ⟨false⟩).i).sum) % 2) (xs := irange ((p.n : Nat) : Int)) fun x hx => by
      obtain ⟨k, hk, rfl⟩ := List.mem_map.mp (show x ∈ (List.range p.n).map fun i : Nat => (i : Int) from hx)
      rw [List.mem_range] at hk
      rw [List.length_map, range3_ok hk h64 hr, Rs.okb, Int.toNat_natCast]
      have h2 := Rs.mapR_eq (f := fun j : Int => ixR (bi row) j) (g := fun j : Int => (row.getD j.toNat ⟨false⟩).i) (xs := ((List.range row.length).filter fun j => decide (j % p.n = k)).map fun j : Nat => (j : Int)) fun y hy => by
        obtain ⟨j, hj, rfl⟩ := List.mem_map.mp hy
        have hj := List.mem_range.mp (List.mem_filter.mp hj).1
        exact ix_at' (by rw [List.getElem?_map, Int.toNat_natCast, List.getD_eq_getElem?_getD, List.getElem?_eq_getElem hj]; rfl)
      rw [h2, List.map_map]; rfl
  rw [hm]
  show Rs.ok ((irange ((p.n : Nat) : Int)).map _) = _
  rw [irange_nat, List.map_map]; rfl
theorem dEq_py {α : Type} [Tc α] [Py α] [DecidableEq α] (h : Py.dep α ≤ 64) (a b : α) : dEq (Tc.d a) (Tc.d b) = .ok (decide (a = b)) := by
  unfold dEq
  rw [Py.f a, Py.f b]
  show (if _ then _ else _) = _
  rw [if_pos ⟨shaped_py h a, shaped_py h b⟩, eqv_py]
theorem made_ok (p : Prs) : m_Press___init__ (Tc.d (p.n : Int)) (Tc.d (p.taps.map fun t : Nat => (t : Int))) = .ok p.c := by
  have h0 := p.h0
  have h64 := p.h64
  have ne : p.taps ≠ [] := fun e => by have := p.hl; rw [e] at this; cases this
  have d1 : (Dn.dn (α := Int) (Tc.d (p.n : Int))) = some (p.n : Int) := rfl
  have d2 : (Dn.dn (α := List D) (Tc.d (p.taps.map fun t : Nat => (t : Int)))) = some ((p.taps.map fun t : Nat => (t : Int)).map Tc.d) := rfl
  have d3 : (Dn.dn (α := List Int) (Tc.d (p.taps.map fun t : Nat => (t : Int)))) = some (p.taps.map fun t : Nat => (t : Int)) := dnL_map (α := Int) (fun _ => rfl) _
  have e0 : dEq (Tc.d ((p.taps.map fun t : Nat => (t : Int)).map Tc.d)) (Tc.d ([] : List D)) = .ok false := by
    have := dEq_py (α := List Int) (by decide) (p.taps.map fun t : Nat => (t : Int)) []
    rw [decide_eq_false (fun e => ne (List.map_eq_nil_iff.mp e))] at this
    have e : (((p.taps.map fun t : Nat => (t : Int)).map (Tc.d (α := Int))).map (Tc.d (α := D))) = (p.taps.map fun t : Nat => (t : Int)).map (Tc.d (α := Int)) := List.map_id' _
    show dEq (.tup (((p.taps.map fun t : Nat => (t : Int)).map (Tc.d (α := Int))).map (Tc.d (α := D)))) _ = _
    rw [e]
    exact this
  unfold m_Press___init__
  rw [int_in, show c_MOST_WIDTH = 64 from rfl, decide_eq_true (by omega)]
  simp only [d1, d2, d3, Rs.of, Rs.okb, Rs.map_def]
  show (Rs.bind (Rs.bind (Rs.bind (isT .tuple (Tc.d (p.taps.map fun t : Nat => (t : Int)))) _) _) _) = _
  rw [show isT .tuple (Tc.d (p.taps.map fun t : Nat => (t : Int))) = .ok true from rfl, Rs.okb, Rs.okb]
  rw [show (!true) = false from rfl, if_neg Bool.false_ne_true, e0, Rs.okb, if_neg Bool.false_ne_true]
  have hf := Rs.fold_eq (σ := Unit) (I := fun _ => True) (g := fun _ _ => ()) (xs := enumF 0 ((p.taps.map fun t : Nat => (t : Int)).map (Tc.d (α := Int)))) (s := ()) trivial (f := fun (s : Unit) (p7 : (T2 Int D)) =>
      (((m_is_integer p7.b (0 : Int) ((p.n : Int) - 1)).bind fun z17 => .ok (!z17)).bind fun z18 => if z18 then .ok true else (if (decide (p7.a > (0 : Int))) then ((Rs.of (Dn.dn (α := Int) p7.b)).bind fun z10 => ((ixR ((p.taps.map fun t : Nat => (t : Int)).map (Tc.d (α := Int))) (p7.a - (1 : Int))).bind fun z9 => Rs.of (Dn.dn (α := Int) z9)).bind fun z11 => .ok (decide (z10 ≤ z11))) else .ok false)).bind fun z19 =>
      if z19 then
        .ex ("BadSignature", [])
      else
        .ok ()) fun s z _ hz => by
    obtain ⟨i, h1, h2⟩ := enum_mem hz
    rw [List.getElem?_map, List.getElem?_map] at h2
    obtain ⟨u, hu, e2⟩ := Option.map_eq_some_iff.mp h2
    obtain ⟨t, ht, e3⟩ := Option.map_eq_some_iff.mp hu
    obtain ⟨za, zb⟩ := z
    dsimp only at h1 e2
    subst e3
    subst e2
    have hlt := p.lt (List.mem_of_getElem? ht)
    obtain ⟨hi, hti⟩ := List.getElem?_eq_some_iff.mp ht
    refine ⟨?_, trivial⟩
    dsimp only
    rw [int_in, decide_eq_true (by omega)]
    show (Rs.bind (if decide (za > 0) = true then _ else _) _) = _
    cases i with
    | zero =>
      rw [h1]; rfl
    | succ i =>
      have : za > 0 := by omega
      rw [decide_eq_true this, if_pos rfl, show za - 1 = (i : Int) by omega]
      have hi' : i < p.taps.length := by omega
      rw [ix_at' (v := Tc.d ((p.taps[i] : Nat) : Int)) (by rw [List.getElem?_map, List.getElem?_map, List.getElem?_eq_getElem hi']; rfl)]
      have hp := List.pairwise_iff_getElem.mp p.hs i (i + 1) hi' hi (by omega)
      rw [hti] at hp
      show (if decide ((t : Int) ≤ (p.taps[i] : Int)) = true then _ else _) = _
      rw [decide_eq_false (by omega)]; rfl
  refine Rs.bindE hf.1 |>.trans ?_
  rw [ix_last (v := Tc.d ((p.n - 1 : Nat) : Int)) (by rw [List.getLast?_map, List.getLast?_map, p.hl]; rfl), Rs.okb]
  have e1 : dNe (Tc.d ((p.n - 1 : Nat) : Int)) (Tc.d ((p.n : Int) - 1)) = .ok false := by
    unfold dNe
    rw [dEq_py (α := Int) (by decide), decide_eq_true (by omega)]; rfl
  rw [e1]
  rfl
theorem refuse3 (p : Prs) {d e : D} (hd : Odd d) : m__law_refused p.c 3 e d = .ok true := by
  unfold m__law_refused
  rw [decide_eq_false (by decide), if_neg Bool.false_ne_true, decide_eq_false (by decide), if_neg Bool.false_ne_true, decide_eq_false (by decide), if_neg Bool.false_ne_true]
  have : m_Press_signature p.c ⟨[d]⟩ = .ex ("BadSignature", []) := by
    unfold m_Press_signature
    show Rs.bind (Rs.bind (Rs.bind (Rs.bind (Rs.bind (m_Press_fold p.c d) _) _) _) _) _ = _
    rw [hd p]; rfl
  rw [this]; rfl
/-- signatures -/
theorem signature_ok (p : Prs) {tb : List (List Bt)} (ht : ∀ r ∈ tb, r.length ≤ 1000) {ws : List (List Bt)} (hw : tb.map (foldI p.n) = ws.map bi) (hl : ∀ w ∈ ws, w.length = p.n) :
    m_Press_signature p.c ⟨(tb.map bi).map Tc.d⟩ = .ok (bi (pressP p.n p.taps ws)) := by
  unfold m_Press_signature
  have := Rs.mapX_eq (f := fun response : D => (m_Press_fold p.c response).map Tc.d) (g := fun d => match m_Press_fold p.c d with | .ok l => Tc.d l | _ => .non) (xs := (tb.map bi).map Tc.d) fun x hx => by
    obtain ⟨y, hy, rfl⟩ := List.mem_map.mp hx
    obtain ⟨r, hr, rfl⟩ := List.mem_map.mp hy
    rw [pfold_ok p r (ht r hr)]; rfl
  rw [this]
  have e : (((tb.map bi).map (Tc.d (α := List Int))).map fun d => match m_Press_fold p.c d with | .ok l => Tc.d l | _ => D.non) = (ws.map bi).map (Tc.d (α := List Int)) := by
    rw [← hw, List.map_map, List.map_map, List.map_map]
    refine List.map_congr_left fun r hr => ?_
    show (match m_Press_fold p.c (Tc.d (bi r)) with | .ok l => Tc.d l | _ => D.non) = _
    rw [pfold_ok p r (ht r hr)]; rfl
  show Rs.bind (Rs.bind (Rs.bind (.ok _) _) _) _ = _
  rw [e]
  exact press_ok p hl
theorem fold_bits {n : Nat} (row : List Bt) : ∃ w : List Bt, foldI n row = bi w ∧ w.length = n := by
  refine ⟨(List.range n).map fun k => ⟨decide (((((List.range row.length).filter fun j => decide (j % n = k)).map fun j => (row.getD j ⟨false⟩).i).sum) % 2 = 1)⟩, ?_, by simp⟩
  unfold foldI bi
  rw [List.map_map]
  refine List.map_congr_left fun k _ => ?_
  show _ = Bt.i ⟨decide _⟩
  generalize ((((List.range row.length).filter fun j => decide (j % n = k)).map fun j => (row.getD j ⟨false⟩).i).sum) = s
  rcases Int.emod_two_eq s with h | h <;> rw [h] <;> rfl
theorem pick_wp {α : Type} {l : List α} {n : Int} {Q : α → Prop} {X : XD → Prop} (h0 : 0 < n) (h1 : n < 1073741824) (hn : n = l.length) (k : ∀ x ∈ l, Q x) : ((m__law_draw Drw.mk n).bind fun z => ixR l z).wp Q X := by
  refine Rs.wpB (draw_wp (Q := fun z => ∃ v : Nat, z = v ∧ v < l.length) h0 h1 fun v hv => ⟨v, rfl, by omega⟩) ?_
  rintro _ ⟨v, rfl, hv⟩
  rw [ix_ok hv]
  exact k _ (List.getElem_mem hv)
theorem l18 (n : Int) (ts : List Int) : (m_law_18 n ts (Li.mk ([(T2.mk (Tc.d (0 : Int)) (Tc.d (T1.mk (0 : Int)))), (T2.mk (Tc.d (65 : Int)) (Tc.d (T1.mk (64 : Int)))), (T2.mk (Tc.d true) (Tc.d (T1.mk (0 : Int)))), (T2.mk (Tc.d (3 : Int)) (Tc.d ([] : List Int))), (T2.mk (Tc.d (3 : Int)) (Tc.d (T2.mk (0 : Int) (1 : Int)))), (T2.mk (Tc.d (3 : Int)) (Tc.d (T2.mk (2 : Int) (2 : Int)))), (T2.mk (Tc.d (3 : Int)) (Tc.d (T3.mk (1 : Int) (0 : Int) (2 : Int)))), (T2.mk (Tc.d (3 : Int)) (Tc.d (T2.mk (0 : Int) (3 : Int)))), (T2.mk (Tc.d (3 : Int)) (Tc.d (Li.mk ([(2 : Int)] : List Int)))), (T2.mk (Tc.d (3 : Int)) (Tc.d (T2.mk (-(1 : Int)) (2 : Int))))] : List (T2 D D)))).wp (fun b => b = true) fun _ => False := by
  unfold m_law_18
  refine Rs.wpE (catLi_ok (by decide)) ?_
  refine Rs.wpB (pick_wp (n := 15) (Q := fun z : T2 D D => m__law_made z.a z.b = .ok "refused") (by decide) (by decide) rfl wrong_all) fun z hz => ?_
  dsimp only
  rw [hz, made64, made1]
  rfl
theorem l16 (p : Prs) {st : List Bt} (n : Int) (ts : List Int) {odd : D} (ho : Odd odd) : (m_law_16 n ts p.c (bi st) odd).wp (fun b => b = true) fun _ => False := by
  unfold m_law_16
  rw [refuse2 p ho, refuse3 p ho]
  simp only [Rs.okb, Bool.not_true, Bool.false_eq_true, if_false]
  exact l18 n ts
theorem l14 (p : Prs) {st wd : List Bt} (n : Int) (ts : List Int) (hs : st.length = p.n) {bad : D} (hb : Bad p bad) : (m_law_14 n ts p.c (bi st) (bi wd) bad).wp (fun b => b = true) fun _ => False := by
  unfold m_law_14
  rw [refuse0 p hs hb, refuse0' p hb, refuse1 p hb]
  simp only [Rs.okb, Bool.not_true, Bool.false_eq_true, if_false]
  refine Rs.wpB (pick_wp (n := 6) (Q := Odd) (by decide) (by decide) rfl odd_all) fun z hz => ?_
  exact l16 p n ts hz
theorem l12 (p : Prs) {st wd : List Bt} (hs : st.length = p.n) (hw : wd.length = p.n) {tb ws : List (List Bt)} (ht : ∀ r ∈ tb, r.length ≤ 1000) (hf : tb.map (foldI p.n) = ws.map bi) (hl : ∀ w ∈ ws, w.length = p.n) :
    (m_law_12 p.n p.c.taps p.c (bi st) (bi wd) (bis tb) (bis ws)).wp (fun b => b = true) fun _ => False := by
  have h0 := p.h0
  have h64 := p.h64
  unfold m_law_12
  rw [signature_ok p ht hf hl, sign_ok p hl, Rs.okb, Rs.okb, decide_eq_true rfl, Rs.okb, Rs.okb]
  simp only [Bool.not_true, Bool.false_eq_true, if_false]
  have c1 : catR (bi wd) [(0 : Int)] = .ok (bi (wd ++ [⟨false⟩])) := by rw [cat_ok (by simp; omega)]; simp [bi, Bt.i]
  have cd : cutD (bi wd) none (some (-(1 : Int))) = bi wd.dropLast := by rw [cut_last', ← List.map_dropLast]
  have c2 : catR (bi wd.dropLast) [(2 : Int)] = .ok (bi wd.dropLast ++ [2]) := cat_ok (by simp; omega)
  have c3 : catR ((bi wd.dropLast).map Tc.d) [Tc.d true] = .ok ((bi wd.dropLast).map Tc.d ++ [Tc.d true]) := cat_ok (by simp; omega)
  rw [cd, c1, c2, c3]
  simp only [Rs.map_def, Rs.okb, Rs.bind_assoc]
  have hlast : wd.dropLast.length + 1 = p.n := by rw [List.length_dropLast]; omega
  have go : ∀ d ∈ ([Tc.d (bi (wd ++ [⟨false⟩])), Tc.d (bi wd.dropLast), Tc.d (Li.mk (bi wd)), D.non, Tc.d (bi wd.dropLast ++ [2]), Tc.d ((bi wd.dropLast).map (Tc.d (α := Int)) ++ [Tc.d true])] : List D), Bad p d := by
    intro d hd
    simp only [List.mem_cons, List.not_mem_nil, or_false] at hd
    rcases hd with e | e | e | e | e | e <;> subst e
    · exact bad_len p (by simp; omega)
    · exact bad_len p (by omega)
    · exact bad_list p _
    · exact bad_non p
    · have := bad_last p (w := wd.dropLast) hlast (x := .int 2) rfl
      rw [show Tc.d (bi wd.dropLast ++ [2]) = D.tup ((bi wd.dropLast ++ [2]).map Tc.d) from rfl, List.map_append]
      exact this
    · have := bad_last p (w := wd.dropLast) hlast (x := .bl true) rfl
      rw [show Tc.d ((bi wd.dropLast).map (Tc.d (α := Int)) ++ [Tc.d true]) = D.tup (((bi wd.dropLast).map (Tc.d (α := Int)) ++ [Tc.d true]).map Tc.d) from rfl, List.map_append]
      rw [show ((bi wd.dropLast).map (Tc.d (α := Int))).map (Tc.d (α := D)) = (bi wd.dropLast).map (Tc.d (α := Int)) from List.map_id' _]
      exact this
  refine Rs.wpB (draw_wp (Q := fun z => ∃ v : Nat, z = v ∧ v < 6) (by decide) (by decide) fun v hv => ⟨v, rfl, by omega⟩) ?_
  rintro _ ⟨v, rfl, hv⟩
  refine Rs.wpE (ix_ok (by simpa using hv)) ?_
  exact l14 p _ _ hs (go _ (List.getElem_mem _))
theorem l9 (p : Prs) {st wd : List Bt} (hs : st.length = p.n) (hw : wd.length = p.n) {tb ws : List (List Bt)} (ht : ∀ r ∈ tb, r.length ≤ 1000) (hl : ∀ w ∈ ws, w.length = p.n) :
    (m_law_9 p.n p.c.taps p.c (bi st) (bi wd) (bis ws) (bis tb)).wp (fun b => b = true) fun _ => False := by
  unfold m_law_9
  rw [press_ok p hl, sign_ok p hl, Rs.okb, Rs.okb, decide_eq_true rfl, Rs.okb, Rs.okb]
  simp only [Bool.not_true, Bool.false_eq_true, if_false]
  have e1 := Rs.mapR_eq (f := fun row : List Int => m__law_fold p.n row) (g := fun row => match m__law_fold p.n row with | .ok l => l | _ => []) (xs := tb.map bi) fun x hx => by
    obtain ⟨r, hr, rfl⟩ := List.mem_map.mp hx
    rw [lfold_ok p r (ht r hr)]
  have e2 := Rs.mapR_eq (f := fun row : List Int => m_Press_fold p.c (Tc.d row)) (g := fun row => match m__law_fold p.n row with | .ok l => l | _ => []) (xs := tb.map bi) fun x hx => by
    obtain ⟨r, hr, rfl⟩ := List.mem_map.mp hx
    rw [lfold_ok p r (ht r hr), pfold_ok p r (ht r hr)]
  rw [e1, e2]
  simp only [Rs.okb, decide_true, Bool.not_true, Bool.false_eq_true, if_false]
  have e3 : ((tb.map bi).map fun row => match m__law_fold p.n row with | .ok l => l | _ => []) = tb.map (foldI p.n) := by
    rw [List.map_map]
    refine List.map_congr_left fun r hr => ?_
    show (match m__law_fold p.n (bi r) with | .ok l => l | _ => []) = _
    rw [lfold_ok p r (ht r hr)]
  rw [e3]
  obtain ⟨vs, hv, hvl⟩ := rows_of (ys := tb.map (foldI p.n)) (n := p.n) fun y hy => by
    obtain ⟨r, _, rfl⟩ := List.mem_map.mp hy
    exact fold_bits r
  rw [hv]
  exact l12 p hs hw ht hv hvl
theorem rowsL_wp {n : Nat} {f : Int → Rs (List Int)} {xs : List Int} {Q : Li (List Int) → Prop} {X : XD → Prop} (hf : ∀ x ∈ xs, (f x).wp (fun y => ∃ w : List Bt, y = bi w ∧ w.length ≤ n) fun _ => False) (k : ∀ ws : List (List Bt), (∀ w ∈ ws, w.length ≤ n) → Q (bis ws)) :
    ((Rs.mapR f xs).bind fun ys => .ok (Li.mk ys)).wp Q X := by
  refine Rs.wpB (Rs.mapR_wp hf) fun ys hys => ?_
  have go : ∀ ys : List (List Int), (∀ y ∈ ys, ∃ w : List Bt, y = bi w ∧ w.length ≤ n) → ∃ ws : List (List Bt), ys = ws.map bi ∧ ∀ w ∈ ws, w.length ≤ n := by
    intro ys
    induction ys with
    | nil => exact fun _ => ⟨[], rfl, fun w h => by cases h⟩
    | cons y r ih =>
      intro h
      obtain ⟨b, hb, hn⟩ := h y (List.mem_cons_self ..)
      obtain ⟨w, hw, hm⟩ := ih fun z hz => h z (List.mem_cons_of_mem _ hz)
      exact ⟨b :: w, by rw [hb, hw]; rfl, fun z hz => by rcases List.mem_cons.mp hz with e | e; exact e ▸ hn; exact hm z e⟩
  obtain ⟨ws, rfl, hw⟩ := go ys fun y hy => by obtain ⟨_, _, h⟩ := all2_mem hys hy; exact h
  exact k ws hw
theorem l6 (p : Prs) {st wd : List Bt} (hs : st.length = p.n) (hw : wd.length = p.n) : (m_law_6 p.n p.c.taps p.c (bi st) (bi wd)).wp (fun b => b = true) fun _ => False := by
  have h0 := p.h0
  have h64 := p.h64
  unfold m_law_6
  simp only [Rs.bind_assoc]
  refine Rs.wpB (draw_wp (Q := fun z => ∃ v : Nat, z = v ∧ v < 21) (by decide) (by decide) fun v hv => ⟨v, rfl, by omega⟩) ?_
  rintro _ ⟨many, rfl, hmany⟩
  refine Rs.wpE (rng_ok (by omega) (by omega)) ?_
  rw [← Rs.bind_assoc]
  refine Rs.wpB (rows_wp (n := p.n) (Q := fun r => ∃ ws : List (List Bt), r = bis ws ∧ ∀ w ∈ ws, w.length = p.n) (fun x _ => bits_wp (by omega) fun w hw => ⟨w, rfl, hw⟩) fun ws _ h2 => ⟨ws, rfl, h2⟩) ?_
  rintro _ ⟨ws, rfl, hl⟩
  refine Rs.wpB (draw_wp (Q := fun z => ∃ v : Nat, z = v ∧ v < 11) (by decide) (by decide) fun v hv => ⟨v, rfl, by omega⟩) ?_
  rintro _ ⟨rows, rfl, hrows⟩
  refine Rs.wpE (rng_ok (by omega) (by omega)) ?_
  rw [← Rs.bind_assoc]
  refine Rs.wpB (rowsL_wp (n := 1000) (Q := fun r => ∃ tb : List (List Bt), r = bis tb ∧ ∀ w ∈ tb, w.length ≤ 1000) (fun x _ => ?_) fun tb h2 => ⟨tb, rfl, h2⟩) ?_
  · refine Rs.wpB (draw_wp (Q := fun z => ∃ v : Nat, z = v ∧ v < 1000) (by omega) (by omega) fun v hv => ⟨v, rfl, by omega⟩) ?_
    rintro _ ⟨v, rfl, hv⟩
    exact bits_wp (by omega) fun w hw => ⟨w, rfl, by omega⟩
  rintro _ ⟨tb, rfl, ht⟩
  rw [step_ok p hs hw, after_ok p hs hw]
  simp only [Rs.okb, decide_true, Bool.not_true, Bool.false_eq_true, if_false]
  exact l9 p hs hw ht hl
theorem law_plain : ∀ ns : List Int, ns.length ≤ 63 → (m_law ⟨ns⟩).wp (fun b => b = true) fun _ => False := by
  intro ns _
  unfold m_law
  simp only [Rs.bind_assoc, Rs.okb]
  refine Rs.wpB (draw_wp (Q := fun z => ∃ v : Nat, z = v ∧ v < 2) (by decide) (by decide) fun v hv => ⟨v, rfl, by omega⟩) ?_
  rintro _ ⟨v, rfl, hv⟩
  have : ∃ most : Int, ixR [(8 : Int), 64] (v : Int) = .ok most ∧ 0 < most ∧ most ≤ 64 := by
    rcases (show v = 0 ∨ v = 1 by omega) with e | e <;> subst e
    · exact ⟨8, rfl, by decide, by decide⟩
    · exact ⟨64, rfl, by decide, by decide⟩
  obtain ⟨most, e, h0, h1⟩ := this
  refine Rs.wpE e ?_
  refine Rs.wpB (lawpress_wp (Q := fun z => ∃ p : Prs, z = ⟨p.n, p.taps.map fun t : Nat => (t : Int)⟩) h0 h1 fun p _ => ⟨p, rfl⟩) ?_
  rintro _ ⟨p, rfl⟩
  have h64 := p.h64
  refine Rs.wpE (made_ok p) ?_
  show (if (!decide (T2.mk p.c.width p.c.taps = T2.mk p.c.width p.c.taps)) = true then _ else _ : Rs Bool).wp _ _
  rw [decide_eq_true rfl]
  simp only [Bool.not_true, Bool.false_eq_true, if_false]
  refine Rs.wpB (bits_wp (Q := fun y => ∃ w : List Bt, y = bi w ∧ w.length = p.n) (by omega) fun w hw => ⟨w, rfl, hw⟩) ?_
  rintro _ ⟨st, rfl, hs⟩
  refine Rs.wpB (bits_wp (Q := fun y => ∃ w : List Bt, y = bi w ∧ w.length = p.n) (by omega) fun w hw => ⟨w, rfl, hw⟩) ?_
  rintro _ ⟨wd, rfl, hw⟩
  exact l6 p hs hw
end DS

namespace DS
open PySem PySem.Spec PyProof.Rows L2
def topS (i : Nat) : Stmt := PySem.Challenge.pw_probefoundry_k60_presses.main.body.getD i (.Pass ⟨0, 0, 0, 0⟩)
abbrev Pg : Program := PySem.Challenge.rw_probefoundry_k60_presses.prog
abbrev s__law_draws : Stmt := topS 12
theorem sc__law_draws : FnScope N__law_draws ["script"] (defScope s__law_draws) := ⟨rfl, rfl, rfl, by decide +kernel, rfl, by decide +kernel, by decide +kernel⟩
theorem ck__law_draws : chkSs (nm__law_draws.ct N__law_draws (defScope s__law_draws)) b__law_draws (defBody s__law_draws) = true := by decide +kernel
theorem bd__law_draws : BindOk "_law_draws" "_law_draws" s__law_draws ["script"] := fun _ _ _ _ _ _ us hl => match us, hl with | [_], _ => rfl
abbrev s__law_draw : Stmt := topS 13
theorem sc__law_draw : FnScope N__law_draw ["draws", "limit"] (defScope s__law_draw) := ⟨rfl, rfl, rfl, by decide +kernel, rfl, by decide +kernel, by decide +kernel⟩
theorem ck__law_draw : chkSs (nm__law_draw.ct N__law_draw (defScope s__law_draw)) b__law_draw (defBody s__law_draw) = true := by decide +kernel
theorem bd__law_draw : BindOk "_law_draw" "_law_draw" s__law_draw ["draws", "limit"] := fun _ _ _ _ _ _ us hl => match us, hl with | [_, _], _ => rfl
abbrev s__law_press : Stmt := topS 15
theorem sc__law_press : FnScope N__law_press ["draws", "most"] (defScope s__law_press) := ⟨rfl, rfl, rfl, by decide +kernel, rfl, by decide +kernel, by decide +kernel⟩
theorem ck__law_press : chkSs (nm__law_press.ct N__law_press (defScope s__law_press)) b__law_press (defBody s__law_press) = true := by decide +kernel
theorem bd__law_press : BindOk "_law_press" "_law_press" s__law_press ["draws", "most"] := fun _ _ _ _ _ _ us hl => match us, hl with | [_, _], _ => rfl
abbrev s__law_same : Stmt := topS 14
theorem sc__law_same : FnScope N__law_same ["actual", "expected"] (defScope s__law_same) := ⟨rfl, rfl, rfl, by decide +kernel, rfl, by decide +kernel, by decide +kernel⟩
theorem ck__law_same : chkSs (nm__law_same.ct N__law_same (defScope s__law_same)) b__law_same (defBody s__law_same) = true := by decide +kernel
theorem bd__law_same : BindOk "_law_same" "_law_same" s__law_same ["actual", "expected"] := fun _ _ _ _ _ _ us hl => match us, hl with | [_, _], _ => rfl
abbrev s__law_bits_of : Stmt := topS 16
theorem sc__law_bits_of : FnScope N__law_bits_of ["draws", "size"] (defScope s__law_bits_of) := ⟨rfl, rfl, rfl, by decide +kernel, rfl, by decide +kernel, by decide +kernel⟩
theorem ck__law_bits_of : chkSs (nm__law_bits_of.ct N__law_bits_of (defScope s__law_bits_of)) b__law_bits_of (defBody s__law_bits_of) = true := by decide +kernel
theorem bd__law_bits_of : BindOk "_law_bits_of" "_law_bits_of" s__law_bits_of ["draws", "size"] := fun _ _ _ _ _ _ us hl => match us, hl with | [_, _], _ => rfl
abbrev s__law_after : Stmt := topS 17
theorem sc__law_after : FnScope N__law_after ["width", "taps", "state", "word"] (defScope s__law_after) := ⟨rfl, rfl, rfl, by decide +kernel, rfl, by decide +kernel, by decide +kernel⟩
theorem ck__law_after : chkSs (nm__law_after.ct N__law_after (defScope s__law_after)) b__law_after (defBody s__law_after) = true := by decide +kernel
theorem bd__law_after : BindOk "_law_after" "_law_after" s__law_after ["width", "taps", "state", "word"] := fun _ _ _ _ _ _ us hl => match us, hl with | [_, _, _, _], _ => rfl
abbrev s__law_signature : Stmt := topS 18
theorem sc__law_signature : FnScope N__law_signature ["width", "taps", "words"] (defScope s__law_signature) := ⟨rfl, rfl, rfl, by decide +kernel, rfl, by decide +kernel, by decide +kernel⟩
theorem ck__law_signature : chkSs (nm__law_signature.ct N__law_signature (defScope s__law_signature)) b__law_signature (defBody s__law_signature) = true := by decide +kernel
theorem bd__law_signature : BindOk "_law_signature" "_law_signature" s__law_signature ["width", "taps", "words"] := fun _ _ _ _ _ _ us hl => match us, hl with | [_, _, _], _ => rfl
abbrev s__law_fold : Stmt := topS 19
theorem sc__law_fold : FnScope N__law_fold ["width", "bits"] (defScope s__law_fold) := ⟨rfl, rfl, rfl, by decide +kernel, rfl, by decide +kernel, by decide +kernel⟩
theorem ck__law_fold : chkSs (nm__law_fold.ct N__law_fold (defScope s__law_fold)) b__law_fold (defBody s__law_fold) = true := by decide +kernel
theorem bd__law_fold : BindOk "_law_fold" "_law_fold" s__law_fold ["width", "bits"] := fun _ _ _ _ _ _ us hl => match us, hl with | [_, _], _ => rfl
abbrev s_is_integer : Stmt := topS 6
theorem sc_is_integer : FnScope N_is_integer ["value", "least", "greatest"] (defScope s_is_integer) := ⟨rfl, rfl, rfl, by decide +kernel, rfl, by decide +kernel, by decide +kernel⟩
theorem ck_is_integer : chkSs (nm_is_integer.ct N_is_integer (defScope s_is_integer)) b_is_integer (defBody s_is_integer) = true := by decide +kernel
theorem bd_is_integer : BindOk "is_integer" "is_integer" s_is_integer ["value", "least", "greatest"] := fun _ _ _ _ _ _ us hl => match us, hl with | [_, _, _], _ => rfl
abbrev s_is_bit : Stmt := topS 7
theorem sc_is_bit : FnScope N_is_bit ["value"] (defScope s_is_bit) := ⟨rfl, rfl, rfl, by decide +kernel, rfl, by decide +kernel, by decide +kernel⟩
theorem ck_is_bit : chkSs (nm_is_bit.ct N_is_bit (defScope s_is_bit)) b_is_bit (defBody s_is_bit) = true := by decide +kernel
theorem bd_is_bit : BindOk "is_bit" "is_bit" s_is_bit ["value"] := fun _ _ _ _ _ _ us hl => match us, hl with | [_], _ => rfl
abbrev s_are_bits : Stmt := topS 8
theorem sc_are_bits : FnScope N_are_bits ["value", "count"] (defScope s_are_bits) := ⟨rfl, rfl, rfl, by decide +kernel, rfl, by decide +kernel, by decide +kernel⟩
theorem ck_are_bits : chkSs (nm_are_bits.ct N_are_bits (defScope s_are_bits)) b_are_bits (defBody s_are_bits) = true := by decide +kernel
theorem bd_are_bits : BindOk "are_bits" "are_bits" s_are_bits ["value", "count"] := fun _ _ _ _ _ _ us hl => match us, hl with | [_, _], _ => rfl
abbrev s_Press_step : Stmt := inClass (topS 10) 1
theorem sc_Press_step : FnScope N_Press_step ["self", "state", "word"] (defScope s_Press_step) := ⟨rfl, rfl, rfl, by decide +kernel, rfl, by decide +kernel, by decide +kernel⟩
theorem ck_Press_step : chkSs (nm_Press_step.ct N_Press_step (defScope s_Press_step)) b_Press_step (defBody s_Press_step) = true := by decide +kernel
theorem bd_Press_step : BindOk "step" "Press.step" s_Press_step ["self", "state", "word"] := fun _ _ _ _ _ _ us hl => match us, hl with | [_, _, _], _ => rfl
abbrev s_Press_press : Stmt := inClass (topS 10) 3
theorem sc_Press_press : FnScope N_Press_press ["self", "words"] (defScope s_Press_press) := ⟨rfl, rfl, rfl, by decide +kernel, rfl, by decide +kernel, by decide +kernel⟩
theorem ck_Press_press : chkSs (nm_Press_press.ct N_Press_press (defScope s_Press_press)) b_Press_press (defBody s_Press_press) = true := by decide +kernel
theorem bd_Press_press : BindOk "press" "Press.press" s_Press_press ["self", "words"] := fun _ _ _ _ _ _ us hl => match us, hl with | [_, _], _ => rfl
abbrev s_Press_fold : Stmt := inClass (topS 10) 2
theorem sc_Press_fold : FnScope N_Press_fold ["self", "response"] (defScope s_Press_fold) := ⟨rfl, rfl, rfl, by decide +kernel, rfl, by decide +kernel, by decide +kernel⟩
theorem ck_Press_fold : chkSs (nm_Press_fold.ct N_Press_fold (defScope s_Press_fold)) b_Press_fold (defBody s_Press_fold) = true := by decide +kernel
theorem bd_Press_fold : BindOk "fold" "Press.fold" s_Press_fold ["self", "response"] := fun _ _ _ _ _ _ us hl => match us, hl with | [_, _], _ => rfl
abbrev s_Press_signature : Stmt := inClass (topS 10) 4
theorem sc_Press_signature : FnScope N_Press_signature ["self", "table"] (defScope s_Press_signature) := ⟨rfl, rfl, rfl, by decide +kernel, rfl, by decide +kernel, by decide +kernel⟩
theorem ck_Press_signature : chkSs (nm_Press_signature.ct N_Press_signature (defScope s_Press_signature)) b_Press_signature (defBody s_Press_signature) = true := by decide +kernel
theorem bd_Press_signature : BindOk "signature" "Press.signature" s_Press_signature ["self", "table"] := fun _ _ _ _ _ _ us hl => match us, hl with | [_, _], _ => rfl
abbrev s__law_refused : Stmt := topS 21
theorem sc__law_refused : FnScope N__law_refused ["press", "call", "one", "other"] (defScope s__law_refused) := ⟨rfl, rfl, rfl, by decide +kernel, rfl, by decide +kernel, by decide +kernel⟩
theorem ck__law_refused : chkSs (nm__law_refused.ct N__law_refused (defScope s__law_refused)) b__law_refused (defBody s__law_refused) = true := by decide +kernel
theorem bd__law_refused : BindOk "_law_refused" "_law_refused" s__law_refused ["press", "call", "one", "other"] := fun _ _ _ _ _ _ us hl => match us, hl with | [_, _, _, _], _ => rfl
abbrev s_Press___init__ : Stmt := inClass (topS 10) 0
theorem sc_Press___init__ : FnScope N_Press___init__ ["self", "width", "taps"] (defScope s_Press___init__) := ⟨rfl, rfl, rfl, by decide +kernel, rfl, by decide +kernel, by decide +kernel⟩
theorem ck_Press___init__ : chkSs (nm_Press___init__.ct N_Press___init__ (defScope s_Press___init__)) b_Press___init__ (defBody s_Press___init__) = true := by decide +kernel
theorem bd_Press___init__ : BindOk "__init__" "Press.__init__" s_Press___init__ ["self", "width", "taps"] := fun _ _ _ _ _ _ us hl => match us, hl with | [_, _, _], _ => rfl
abbrev s__law_made : Stmt := topS 20
theorem sc__law_made : FnScope N__law_made ["width", "taps"] (defScope s__law_made) := ⟨rfl, rfl, rfl, by decide +kernel, rfl, by decide +kernel, by decide +kernel⟩
theorem ck__law_made : chkSs (nm__law_made.ct N__law_made (defScope s__law_made)) b__law_made (defBody s__law_made) = true := by decide +kernel
theorem bd__law_made : BindOk "_law_made" "_law_made" s__law_made ["width", "taps"] := fun _ _ _ _ _ _ us hl => match us, hl with | [_, _], _ => rfl
abbrev s_law : Stmt := topS 22
theorem sc_law : FnScope N_law ["script"] (defScope s_law) := ⟨rfl, rfl, rfl, by decide +kernel, rfl, by decide +kernel, by decide +kernel⟩
theorem ck_law : chkSs (nm_law.ct N_law (defScope s_law)) b_law (defBody s_law) = true := by decide +kernel
theorem bd_law : BindOk "law" "law" s_law ["script"] := fun _ _ _ _ _ _ us hl => match us, hl with | [_], _ => rfl
def fnL : List He.DefD := [dS ("_law_draws", none) "_law_draws" "_law_draws" s__law_draws, dS ("_law_draw", none) "_law_draw" "_law_draw" s__law_draw, dS ("_law_press", none) "_law_press" "_law_press" s__law_press, dS ("_law_same", none) "_law_same" "_law_same" s__law_same, dS ("_law_bits_of", none) "_law_bits_of" "_law_bits_of" s__law_bits_of, dS ("_law_after", none) "_law_after" "_law_after" s__law_after, dS ("_law_signature", none) "_law_signature" "_law_signature" s__law_signature, dS ("_law_fold", none) "_law_fold" "_law_fold" s__law_fold, dS ("is_integer", none) "is_integer" "is_integer" s_is_integer, dS ("is_bit", none) "is_bit" "is_bit" s_is_bit, dS ("are_bits", none) "are_bits" "are_bits" s_are_bits, dS ("Press", some "step") "step" "Press.step" s_Press_step, dS ("Press", some "press") "press" "Press.press" s_Press_press, dS ("Press", some "fold") "fold" "Press.fold" s_Press_fold, dS ("Press", some "signature") "signature" "Press.signature" s_Press_signature, dS ("_law_refused", none) "_law_refused" "_law_refused" s__law_refused, dS ("Press", some "__init__") "__init__" "Press.__init__" s_Press___init__, dS ("_law_made", none) "_law_made" "_law_made" s__law_made, dS ("law", none) "law" "law" s_law]
def faL : List He.Fa := bnames.map He.Fa.free ++ [.glo "_law_draws", .glo "_law_draw", .glo "_law_press", .glo "_law_same", .glo "_law_bits_of", .glo "_law_after", .glo "_law_signature", .glo "_law_fold", .glo "is_integer", .glo "is_bit", .glo "are_bits", .glo "_law_refused", .glo "_law_made", .glo "law", .glo "Press", .cls "Press", .noat "Press" "taps", .noat "Press" "width", .glo "BadSignature", .exc "BadSignature", .meth "Press" "step", .meth "Press" "fold", .meth "Press" "press", .glo "ProbeError", .meth "Press" "signature", .int "MOST_WIDTH" 64, .mkr "Press", .meth "Press" "__init__"]
def fxL : List Fx := [.xc "BadSignature", .kit "ProbeError" "BadSignature" false, .kit "BadSignature" "BadSignature" true, .kit "ProbeError" "ProbeError" true, .kit "BadSignature" "ProbeError" true]
section
variable {w : World} {K : PySem.W.Frag} {h : Heap} {mg : Str → Option Value} {base : Heap}
theorem g__law_draws (X : K.In h) (G : h.Ns mainGlobals mg) (c : He.SaysD faL fnL K) (cx : (fxL.all fun f => f.ok K) = true) : mg "_law_draws" = some (.ref (He.ga K "_law_draws")) := He.glo_ok X G (c.fact 18 (f := .glo "_law_draws") rfl)
theorem g__law_draw (X : K.In h) (G : h.Ns mainGlobals mg) (c : He.SaysD faL fnL K) (cx : (fxL.all fun f => f.ok K) = true) : mg "_law_draw" = some (.ref (He.ga K "_law_draw")) := He.glo_ok X G (c.fact 19 (f := .glo "_law_draw") rfl)
theorem g__law_press (X : K.In h) (G : h.Ns mainGlobals mg) (c : He.SaysD faL fnL K) (cx : (fxL.all fun f => f.ok K) = true) : mg "_law_press" = some (.ref (He.ga K "_law_press")) := He.glo_ok X G (c.fact 20 (f := .glo "_law_press") rfl)
theorem g__law_same (X : K.In h) (G : h.Ns mainGlobals mg) (c : He.SaysD faL fnL K) (cx : (fxL.all fun f => f.ok K) = true) : mg "_law_same" = some (.ref (He.ga K "_law_same")) := He.glo_ok X G (c.fact 21 (f := .glo "_law_same") rfl)
theorem g__law_bits_of (X : K.In h) (G : h.Ns mainGlobals mg) (c : He.SaysD faL fnL K) (cx : (fxL.all fun f => f.ok K) = true) : mg "_law_bits_of" = some (.ref (He.ga K "_law_bits_of")) := He.glo_ok X G (c.fact 22 (f := .glo "_law_bits_of") rfl)
theorem g__law_after (X : K.In h) (G : h.Ns mainGlobals mg) (c : He.SaysD faL fnL K) (cx : (fxL.all fun f => f.ok K) = true) : mg "_law_after" = some (.ref (He.ga K "_law_after")) := He.glo_ok X G (c.fact 23 (f := .glo "_law_after") rfl)
theorem g__law_signature (X : K.In h) (G : h.Ns mainGlobals mg) (c : He.SaysD faL fnL K) (cx : (fxL.all fun f => f.ok K) = true) : mg "_law_signature" = some (.ref (He.ga K "_law_signature")) := He.glo_ok X G (c.fact 24 (f := .glo "_law_signature") rfl)
theorem g__law_fold (X : K.In h) (G : h.Ns mainGlobals mg) (c : He.SaysD faL fnL K) (cx : (fxL.all fun f => f.ok K) = true) : mg "_law_fold" = some (.ref (He.ga K "_law_fold")) := He.glo_ok X G (c.fact 25 (f := .glo "_law_fold") rfl)
theorem g_is_integer (X : K.In h) (G : h.Ns mainGlobals mg) (c : He.SaysD faL fnL K) (cx : (fxL.all fun f => f.ok K) = true) : mg "is_integer" = some (.ref (He.ga K "is_integer")) := He.glo_ok X G (c.fact 26 (f := .glo "is_integer") rfl)
theorem g_is_bit (X : K.In h) (G : h.Ns mainGlobals mg) (c : He.SaysD faL fnL K) (cx : (fxL.all fun f => f.ok K) = true) : mg "is_bit" = some (.ref (He.ga K "is_bit")) := He.glo_ok X G (c.fact 27 (f := .glo "is_bit") rfl)
theorem g_are_bits (X : K.In h) (G : h.Ns mainGlobals mg) (c : He.SaysD faL fnL K) (cx : (fxL.all fun f => f.ok K) = true) : mg "are_bits" = some (.ref (He.ga K "are_bits")) := He.glo_ok X G (c.fact 28 (f := .glo "are_bits") rfl)
theorem g__law_refused (X : K.In h) (G : h.Ns mainGlobals mg) (c : He.SaysD faL fnL K) (cx : (fxL.all fun f => f.ok K) = true) : mg "_law_refused" = some (.ref (He.ga K "_law_refused")) := He.glo_ok X G (c.fact 29 (f := .glo "_law_refused") rfl)
theorem g__law_made (X : K.In h) (G : h.Ns mainGlobals mg) (c : He.SaysD faL fnL K) (cx : (fxL.all fun f => f.ok K) = true) : mg "_law_made" = some (.ref (He.ga K "_law_made")) := He.glo_ok X G (c.fact 30 (f := .glo "_law_made") rfl)
theorem g_law (X : K.In h) (G : h.Ns mainGlobals mg) (c : He.SaysD faL fnL K) (cx : (fxL.all fun f => f.ok K) = true) : mg "law" = some (.ref (He.ga K "law")) := He.glo_ok X G (c.fact 31 (f := .glo "law") rfl)
theorem S__law_draws (X : K.In h) (G : h.Ns mainGlobals mg) (c : He.SaysD faL fnL K) (cx : (fxL.all fun f => f.ok K) = true) : FnS Pg w K mg base 2 1 sp__law_draws (He.fAd K ("_law_draws", none)) := fnS_ok (lvl := 0) (c.def_ 0 (d := dS ("_law_draws", none) "_law_draws" "_law_draws" s__law_draws) rfl) bd__law_draws sc__law_draws rfl (Tab.nil (blt_of X G c)) ck__law_draws wp__law_draws
theorem S__law_draw (X : K.In h) (G : h.Ns mainGlobals mg) (c : He.SaysD faL fnL K) (cx : (fxL.all fun f => f.ok K) = true) : FnS Pg w K mg base 2 2 sp__law_draw (He.fAd K ("_law_draw", none)) := fnS_ok (lvl := 0) (c.def_ 1 (d := dS ("_law_draw", none) "_law_draw" "_law_draw" s__law_draw) rfl) bd__law_draw sc__law_draw rfl (Tab.nil (blt_of X G c)) ck__law_draw wp__law_draw
theorem S__law_press (X : K.In h) (G : h.Ns mainGlobals mg) (c : He.SaysD faL fnL K) (cx : (fxL.all fun f => f.ok K) = true) : FnS Pg w K mg base 4 2 sp__law_press (He.fAd K ("_law_press", none)) := fnS_ok (lvl := 2) (c.def_ 2 (d := dS ("_law_press", none) "_law_press" "_law_press" s__law_press) rfl) bd__law_press sc__law_press rfl ((Tab.nil (blt_of X G c)).fnc (g__law_draw X G c cx) (S__law_draw X G c cx) (by decide)) ck__law_press wp__law_press
theorem R__law_same (X : K.In h) (G : h.Ns mainGlobals mg) (c : He.SaysD faL fnL K) (cx : (fxL.all fun f => f.ok K) = true) : ∀ k, FnS Pg w K mg base (0 + 2 * k) 2 (sp__law_same k) (He.fAd K ("_law_same", none)) := by
  refine FnS.rec' (FnS.void (c.def_ 3 (d := dS ("_law_same", none) "_law_same" "_law_same" s__law_same) rfl) bd__law_same (fun ds M R RX ⟨_, _, _, _, _, h, _⟩ => absurd h (Nat.not_lt_zero _))) fun k S => ?_
  exact fnS_ok (lvl := 0 + 2 * k) (c.def_ 3 (d := dS ("_law_same", none) "_law_same" "_law_same" s__law_same) rfl) bd__law_same sc__law_same rfl ((Tab.nil (blt_of X G c)).fnc (g__law_same X G c cx) S (Nat.le_refl _)) ck__law_same (wp__law_same k)
theorem S__law_same (X : K.In h) (G : h.Ns mainGlobals mg) (c : He.SaysD faL fnL K) (cx : (fxL.all fun f => f.ok K) = true) : FnS Pg w K mg base 20 2 (sp__law_same 10) (He.fAd K ("_law_same", none)) := R__law_same X G c cx 10
theorem S__law_bits_of (X : K.In h) (G : h.Ns mainGlobals mg) (c : He.SaysD faL fnL K) (cx : (fxL.all fun f => f.ok K) = true) : FnS Pg w K mg base 4 2 sp__law_bits_of (He.fAd K ("_law_bits_of", none)) := fnS_ok (lvl := 2) (c.def_ 4 (d := dS ("_law_bits_of", none) "_law_bits_of" "_law_bits_of" s__law_bits_of) rfl) bd__law_bits_of sc__law_bits_of rfl ((Tab.nil (blt_of X G c)).fnc (g__law_draw X G c cx) (S__law_draw X G c cx) (by decide)) ck__law_bits_of wp__law_bits_of
theorem S__law_after (X : K.In h) (G : h.Ns mainGlobals mg) (c : He.SaysD faL fnL K) (cx : (fxL.all fun f => f.ok K) = true) : FnS Pg w K mg base 2 4 sp__law_after (He.fAd K ("_law_after", none)) := fnS_ok (lvl := 0) (c.def_ 5 (d := dS ("_law_after", none) "_law_after" "_law_after" s__law_after) rfl) bd__law_after sc__law_after rfl (Tab.nil (blt_of X G c)) ck__law_after wp__law_after
theorem S__law_signature (X : K.In h) (G : h.Ns mainGlobals mg) (c : He.SaysD faL fnL K) (cx : (fxL.all fun f => f.ok K) = true) : FnS Pg w K mg base 4 3 sp__law_signature (He.fAd K ("_law_signature", none)) := fnS_ok (lvl := 2) (c.def_ 6 (d := dS ("_law_signature", none) "_law_signature" "_law_signature" s__law_signature) rfl) bd__law_signature sc__law_signature rfl ((Tab.nil (blt_of X G c)).fnc (g__law_after X G c cx) (S__law_after X G c cx) (by decide)) ck__law_signature wp__law_signature
theorem S__law_fold (X : K.In h) (G : h.Ns mainGlobals mg) (c : He.SaysD faL fnL K) (cx : (fxL.all fun f => f.ok K) = true) : FnS Pg w K mg base 2 2 sp__law_fold (He.fAd K ("_law_fold", none)) := fnS_ok (lvl := 0) (c.def_ 7 (d := dS ("_law_fold", none) "_law_fold" "_law_fold" s__law_fold) rfl) bd__law_fold sc__law_fold rfl (Tab.nil (blt_of X G c)) ck__law_fold wp__law_fold
theorem S_is_integer (X : K.In h) (G : h.Ns mainGlobals mg) (c : He.SaysD faL fnL K) (cx : (fxL.all fun f => f.ok K) = true) : FnS Pg w K mg base 2 3 sp_is_integer (He.fAd K ("is_integer", none)) := fnS_ok (lvl := 0) (c.def_ 8 (d := dS ("is_integer", none) "is_integer" "is_integer" s_is_integer) rfl) bd_is_integer sc_is_integer rfl (Tab.nil (blt_of X G c)) ck_is_integer wp_is_integer
theorem S_is_bit (X : K.In h) (G : h.Ns mainGlobals mg) (c : He.SaysD faL fnL K) (cx : (fxL.all fun f => f.ok K) = true) : FnS Pg w K mg base 4 1 sp_is_bit (He.fAd K ("is_bit", none)) := fnS_ok (lvl := 2) (c.def_ 9 (d := dS ("is_bit", none) "is_bit" "is_bit" s_is_bit) rfl) bd_is_bit sc_is_bit rfl ((Tab.nil (blt_of X G c)).fnc (g_is_integer X G c cx) (S_is_integer X G c cx) (by decide)) ck_is_bit wp_is_bit
theorem S_are_bits (X : K.In h) (G : h.Ns mainGlobals mg) (c : He.SaysD faL fnL K) (cx : (fxL.all fun f => f.ok K) = true) : FnS Pg w K mg base 6 2 sp_are_bits (He.fAd K ("are_bits", none)) := fnS_ok (lvl := 4) (c.def_ 10 (d := dS ("are_bits", none) "are_bits" "are_bits" s_are_bits) rfl) bd_are_bits sc_are_bits rfl ((Tab.nil (blt_of X G c)).fnc (g_is_bit X G c cx) (S_is_bit X G c cx) (by decide)) ck_are_bits wp_are_bits
theorem g_Press (X : K.In h) (G : h.Ns mainGlobals mg) (c : He.SaysD faL fnL K) (cx : (fxL.all fun f => f.ok K) = true) : mg "Press" = some (.ref (He.ga K "Press")) := He.glo_ok X G (c.fact 32 (f := .glo "Press") rfl)
theorem S_Press_step (X : K.In h) (G : h.Ns mainGlobals mg) (c : He.SaysD faL fnL K) (cx : (fxL.all fun f => f.ok K) = true) : FnS Pg w K mg base 8 3 sp_Press_step (He.fAd K ("Press", some "step")) := fnS_ok (lvl := 6) (c.def_ 11 (d := dS ("Press", some "step") "step" "Press.step" s_Press_step) rfl) bd_Press_step sc_Press_step rfl (((((Tab.nil (blt_of X G c)).flc (g_Press X G c cx) (He.cls_ok (c.fact 33 (f := .cls "Press") rfl)) (He.noat_ok (c.fact 34 (f := .noat "Press" "taps") rfl))).flc (g_Press X G c cx) (He.cls_ok (c.fact 33 (f := .cls "Press") rfl)) (He.noat_ok (c.fact 35 (f := .noat "Press" "width") rfl))).excc (excS_ok X G (c.fact 36 (f := .glo "BadSignature") rfl) (c.fact 37 (f := .exc "BadSignature") rfl))).fnc (g_are_bits X G c cx) (S_are_bits X G c cx) (by decide)) ck_Press_step wp_Press_step
theorem S_Press_press (X : K.In h) (G : h.Ns mainGlobals mg) (c : He.SaysD faL fnL K) (cx : (fxL.all fun f => f.ok K) = true) : FnS Pg w K mg base 10 2 sp_Press_press (He.fAd K ("Press", some "press")) := fnS_ok (lvl := 8) (c.def_ 12 (d := dS ("Press", some "press") "press" "Press.press" s_Press_press) rfl) bd_Press_press sc_Press_press rfl (((Tab.nil (blt_of X G c)).flc (g_Press X G c cx) (He.cls_ok (c.fact 33 (f := .cls "Press") rfl)) (He.noat_ok (c.fact 35 (f := .noat "Press" "width") rfl))).mtc (g_Press X G c cx) (He.cls_ok (c.fact 33 (f := .cls "Press") rfl)) (He.meth_ok (c.fact 38 (f := .meth "Press" "step") rfl)) (S_Press_step X G c cx) (by decide) (fun e => absurd e (by decide))) ck_Press_press wp_Press_press
theorem S_Press_fold (X : K.In h) (G : h.Ns mainGlobals mg) (c : He.SaysD faL fnL K) (cx : (fxL.all fun f => f.ok K) = true) : FnS Pg w K mg base 8 2 sp_Press_fold (He.fAd K ("Press", some "fold")) := fnS_ok (lvl := 6) (c.def_ 13 (d := dS ("Press", some "fold") "fold" "Press.fold" s_Press_fold) rfl) bd_Press_fold sc_Press_fold rfl ((((Tab.nil (blt_of X G c)).flc (g_Press X G c cx) (He.cls_ok (c.fact 33 (f := .cls "Press") rfl)) (He.noat_ok (c.fact 35 (f := .noat "Press" "width") rfl))).excc (excS_ok X G (c.fact 36 (f := .glo "BadSignature") rfl) (c.fact 37 (f := .exc "BadSignature") rfl))).fnc (g_are_bits X G c cx) (S_are_bits X G c cx) (by decide)) ck_Press_fold wp_Press_fold
theorem S_Press_signature (X : K.In h) (G : h.Ns mainGlobals mg) (c : He.SaysD faL fnL K) (cx : (fxL.all fun f => f.ok K) = true) : FnS Pg w K mg base 12 2 sp_Press_signature (He.fAd K ("Press", some "signature")) := fnS_ok (lvl := 10) (c.def_ 14 (d := dS ("Press", some "signature") "signature" "Press.signature" s_Press_signature) rfl) bd_Press_signature sc_Press_signature rfl (((Tab.nil (blt_of X G c)).mtc (g_Press X G c cx) (He.cls_ok (c.fact 33 (f := .cls "Press") rfl)) (He.meth_ok (c.fact 39 (f := .meth "Press" "fold") rfl)) (S_Press_fold X G c cx) (by decide) (fun e => absurd e (by decide))).mtc (g_Press X G c cx) (He.cls_ok (c.fact 33 (f := .cls "Press") rfl)) (He.meth_ok (c.fact 40 (f := .meth "Press" "press") rfl)) (S_Press_press X G c cx) (by decide) (fun e => absurd e (by decide))) ck_Press_signature wp_Press_signature
theorem g_ProbeError (X : K.In h) (G : h.Ns mainGlobals mg) (c : He.SaysD faL fnL K) (cx : (fxL.all fun f => f.ok K) = true) : mg "ProbeError" = some (.ref (He.ga K "ProbeError")) := He.glo_ok X G (c.fact 41 (f := .glo "ProbeError") rfl)
theorem g_BadSignature (X : K.In h) (G : h.Ns mainGlobals mg) (c : He.SaysD faL fnL K) (cx : (fxL.all fun f => f.ok K) = true) : mg "BadSignature" = some (.ref (He.ga K "BadSignature")) := He.glo_ok X G (c.fact 36 (f := .glo "BadSignature") rfl)
theorem subG (X : K.In h) (G : h.Ns mainGlobals mg) (c : He.SaysD faL fnL K) (cx : (fxL.all fun f => f.ok K) = true) : ∀ p ∈ subT, (He.Fa.glo p.1).ok K = true := (List.forall_mem_cons.mpr ⟨(c.fact 41 (f := .glo "ProbeError") rfl), (List.forall_mem_cons.mpr ⟨(c.fact 36 (f := .glo "BadSignature") rfl), (List.forall_mem_nil _)⟩)⟩)
theorem xiG (X : K.In h) (G : h.Ns mainGlobals mg) (c : He.SaysD faL fnL K) (cx : (fxL.all fun f => f.ok K) = true) : ∀ k ∈ xiT, ∃ C, mg k = some (.ref C) ∧ ExcC K C := (List.forall_mem_cons.mpr ⟨(xi_one X G (c.fact 36 (f := .glo "BadSignature") rfl) (fx_at cx 0 (f := .xc "BadSignature") rfl)), (List.forall_mem_nil _)⟩)
theorem sub_BadSignature (X : K.In h) (G : h.Ns mainGlobals mg) (c : He.SaysD faL fnL K) (cx : (fxL.all fun f => f.ok K) = true) : ∃ cv, ClsM mg "BadSignature" cv ∧ ∀ x ks, subT.lookup x = some ks → ∀ C, mg x = some (.ref C) → PySem.W.exmOne K (.ref C) cv = some (decide (("BadSignature" : Str) ∈ ks)) ∧ PySem.W.kitOne K (.ref C) cv = some (decide (("BadSignature" : Str) ∈ ks)) := sub_one X G (c.fact 36 (f := .glo "BadSignature") rfl) (subG X G c cx) (show ∀ p ∈ subT, (Fx.kit p.1 "BadSignature" (decide (("BadSignature" : Str) ∈ p.2))).ok K = true from (List.forall_mem_cons.mpr ⟨(fx_at cx 1 (f := .kit "ProbeError" "BadSignature" false) rfl), (List.forall_mem_cons.mpr ⟨(fx_at cx 2 (f := .kit "BadSignature" "BadSignature" true) rfl), (List.forall_mem_nil _)⟩)⟩))
theorem S__law_refused (X : K.In h) (G : h.Ns mainGlobals mg) (c : He.SaysD faL fnL K) (cx : (fxL.all fun f => f.ok K) = true) : FnS Pg w K mg base 14 4 sp__law_refused (He.fAd K ("_law_refused", none)) := fnS_ok (lvl := 12) (c.def_ 15 (d := dS ("_law_refused", none) "_law_refused" "_law_refused" s__law_refused) rfl) bd__law_refused sc__law_refused rfl ((((((Tab.nil (blt_of X G c)).hnc (sub := subT) (List.forall_mem_cons.mpr ⟨(sub_BadSignature X G c cx), (List.forall_mem_nil _)⟩)).mtc (g_Press X G c cx) (He.cls_ok (c.fact 33 (f := .cls "Press") rfl)) (He.meth_ok (c.fact 42 (f := .meth "Press" "signature") rfl)) (S_Press_signature X G c cx) (by decide) (fun e => absurd e (by decide))).mtc (g_Press X G c cx) (He.cls_ok (c.fact 33 (f := .cls "Press") rfl)) (He.meth_ok (c.fact 39 (f := .meth "Press" "fold") rfl)) (S_Press_fold X G c cx) (by decide) (fun e => absurd e (by decide))).mtc (g_Press X G c cx) (He.cls_ok (c.fact 33 (f := .cls "Press") rfl)) (He.meth_ok (c.fact 40 (f := .meth "Press" "press") rfl)) (S_Press_press X G c cx) (by decide) (fun e => absurd e (by decide))).mtc (g_Press X G c cx) (He.cls_ok (c.fact 33 (f := .cls "Press") rfl)) (He.meth_ok (c.fact 38 (f := .meth "Press" "step") rfl)) (S_Press_step X G c cx) (by decide) (fun e => absurd e (by decide))) ck__law_refused wp__law_refused
theorem S_Press___init__ (X : K.In h) (G : h.Ns mainGlobals mg) (c : He.SaysD faL fnL K) (cx : (fxL.all fun f => f.ok K) = true) : FnS Pg w K mg base 4 3 sp_Press___init__ (He.fAd K ("Press", some "__init__")) := fnS_ok (lvl := 2) (c.def_ 16 (d := dS ("Press", some "__init__") "__init__" "Press.__init__" s_Press___init__) rfl) bd_Press___init__ sc_Press___init__ rfl ((((((Tab.nil (blt_of X G c)).flc (g_Press X G c cx) (He.cls_ok (c.fact 33 (f := .cls "Press") rfl)) (He.noat_ok (c.fact 35 (f := .noat "Press" "width") rfl))).flc (g_Press X G c cx) (He.cls_ok (c.fact 33 (f := .cls "Press") rfl)) (He.noat_ok (c.fact 34 (f := .noat "Press" "taps") rfl))).excc (excS_ok X G (c.fact 36 (f := .glo "BadSignature") rfl) (c.fact 37 (f := .exc "BadSignature") rfl))).int (He.int_ok X G (c.fact 43 (f := .int "MOST_WIDTH" 64) rfl))).fnc (g_is_integer X G c cx) (S_is_integer X G c cx) (by decide)) ck_Press___init__ wp_Press___init__
theorem sub_ProbeError (X : K.In h) (G : h.Ns mainGlobals mg) (c : He.SaysD faL fnL K) (cx : (fxL.all fun f => f.ok K) = true) : ∃ cv, ClsM mg "ProbeError" cv ∧ ∀ x ks, subT.lookup x = some ks → ∀ C, mg x = some (.ref C) → PySem.W.exmOne K (.ref C) cv = some (decide (("ProbeError" : Str) ∈ ks)) ∧ PySem.W.kitOne K (.ref C) cv = some (decide (("ProbeError" : Str) ∈ ks)) := sub_one X G (c.fact 41 (f := .glo "ProbeError") rfl) (subG X G c cx) (show ∀ p ∈ subT, (Fx.kit p.1 "ProbeError" (decide (("ProbeError" : Str) ∈ p.2))).ok K = true from (List.forall_mem_cons.mpr ⟨(fx_at cx 3 (f := .kit "ProbeError" "ProbeError" true) rfl), (List.forall_mem_cons.mpr ⟨(fx_at cx 4 (f := .kit "BadSignature" "ProbeError" true) rfl), (List.forall_mem_nil _)⟩)⟩))
theorem S__law_made (X : K.In h) (G : h.Ns mainGlobals mg) (c : He.SaysD faL fnL K) (cx : (fxL.all fun f => f.ok K) = true) : FnS Pg w K mg base 6 2 sp__law_made (He.fAd K ("_law_made", none)) := fnS_ok (lvl := 4) (c.def_ 17 (d := dS ("_law_made", none) "_law_made" "_law_made" s__law_made) rfl) bd__law_made sc__law_made rfl ((((Tab.nil (blt_of X G c)).hnc (sub := subT) (List.forall_mem_cons.mpr ⟨(sub_ProbeError X G c cx), (List.forall_mem_cons.mpr ⟨(sub_BadSignature X G c cx), (List.forall_mem_nil _)⟩)⟩)).xic (xi := xiT) (xiG X G c cx)).mtc (g_Press X G c cx) (He.cls_ok (c.fact 33 (f := .cls "Press") rfl)) (He.meth_ok (c.fact 45 (f := .meth "Press" "__init__") rfl)) (S_Press___init__ X G c cx) (by decide) (fun _ => He.mkr_ok (c.fact 44 (f := .mkr "Press") rfl))) ck__law_made wp__law_made
theorem law_facts (w : World) (K : PySem.W.Frag) (h : Heap) (mg : Str → Option Value) (X : K.In h) (G : h.Ns mainGlobals mg) (c : He.SaysD faL fnL K) (cx : (fxL.all fun f => f.ok K) = true) : mg ("law" : Str) = some (.ref (He.ga K "law")) ∧ ∃ fd, Fun K "law" "law" s_law (He.ga K "law") fd ∧ ∀ base : Heap, FnOk Pg w K mg base (L2.CX Pg w) 22 (He.ga K "law") fd ["script"] (liftSp K mg 1 (spLaw 63)) := by
  obtain ⟨fd, F⟩ := (c.def_ 18 (d := dS ("law", none) "law" "law" s_law) rfl)
  exact ⟨g_law X G c cx, fd, fun_of F, fun base => fn_ok (lvl := 20) (fun_of F) sc_law rfl ((((((((((((((((((Tab.nil (blt_of X G c)).flc (g_Press X G c cx) (He.cls_ok (c.fact 33 (f := .cls "Press") rfl)) (He.noat_ok (c.fact 34 (f := .noat "Press" "taps") rfl))).flc (g_Press X G c cx) (He.cls_ok (c.fact 33 (f := .cls "Press") rfl)) (He.noat_ok (c.fact 35 (f := .noat "Press" "width") rfl))).mtc (g_Press X G c cx) (He.cls_ok (c.fact 33 (f := .cls "Press") rfl)) (He.meth_ok (c.fact 42 (f := .meth "Press" "signature") rfl)) (S_Press_signature X G c cx) (by decide) (fun e => absurd e (by decide))).mtc (g_Press X G c cx) (He.cls_ok (c.fact 33 (f := .cls "Press") rfl)) (He.meth_ok (c.fact 39 (f := .meth "Press" "fold") rfl)) (S_Press_fold X G c cx) (by decide) (fun e => absurd e (by decide))).mtc (g_Press X G c cx) (He.cls_ok (c.fact 33 (f := .cls "Press") rfl)) (He.meth_ok (c.fact 40 (f := .meth "Press" "press") rfl)) (S_Press_press X G c cx) (by decide) (fun e => absurd e (by decide))).mtc (g_Press X G c cx) (He.cls_ok (c.fact 33 (f := .cls "Press") rfl)) (He.meth_ok (c.fact 38 (f := .meth "Press" "step") rfl)) (S_Press_step X G c cx) (by decide) (fun e => absurd e (by decide))).mtc (g_Press X G c cx) (He.cls_ok (c.fact 33 (f := .cls "Press") rfl)) (He.meth_ok (c.fact 45 (f := .meth "Press" "__init__") rfl)) (S_Press___init__ X G c cx) (by decide) (fun _ => He.mkr_ok (c.fact 44 (f := .mkr "Press") rfl))).fnc (g__law_made X G c cx) (S__law_made X G c cx) (by decide)).fnc (g__law_refused X G c cx) (S__law_refused X G c cx) (by decide)).fnc (g__law_fold X G c cx) (S__law_fold X G c cx) (by decide)).fnc (g__law_signature X G c cx) (S__law_signature X G c cx) (by decide)).fnc (g__law_after X G c cx) (S__law_after X G c cx) (by decide)).fnc (g__law_bits_of X G c cx) (S__law_bits_of X G c cx) (by decide)).fnc (g__law_same X G c cx) (S__law_same X G c cx) (by decide)).fnc (g__law_draw X G c cx) (S__law_draw X G c cx) (by decide)).fnc (g__law_press X G c cx) (S__law_press X G c cx) (by decide)).fnc (g__law_draws X G c cx) (S__law_draws X G c cx) (by decide)) ck_law (wp_law law_plain)⟩
end
abbrev Rw : PySem.W.OpenRow := PySem.W.OpenLaw.row PySem.Challenge.rw_probefoundry_k60_presses
abbrev hk : PySem.W.Hook := hookZ 5 faL fxL fnL
def ob (s : PySem.W.SharedT) : Bool × He.AlD := obsZ 5 faL fxL fnL (HandSHeadRun.getT s)
theorem ob_eq (s : PySem.W.SharedT) : ob s = hk.obs s.abs := obsZ_eq (HandSHeadRun.getT_eq s)
def looseL : List PySem.Str := ["_wall", "ProbeError", "BadSignature", "MOST_WIDTH", "is_integer", "is_bit", "are_bits", "Press", "_law_draws", "_law_draw", "_law_same", "_law_press", "_law_bits_of", "_law_after", "_law_signature", "_law_fold", "_law_made", "_law_refused"]
set_option maxHeartbeats 0 in
theorem run (w : World) : HandSHeadRun.RunEq Rw (PySem.W.view Rw.prog [22]) hk ob 3000 looseL w := by
  intro os
  kernel_rfl
end DS
open PySem PySem.W PySem.Calls PyProof.Rows
set_option maxHeartbeats 0 in
theorem PySem.Challenge.cw_probefoundry_k60_presses_holds : PySem.Challenge.rw_probefoundry_k60_presses.Holds := by
  w_on; o_law
  refine HandSHeadRun.head_any (r := PySem.W.OpenLaw.row PySem.Challenge.rw_probefoundry_k60_presses) (q := view (PySem.W.OpenLaw.row PySem.Challenge.rw_probefoundry_k60_presses).prog [22]) (H := DS.hk) (ob := DS.ob) (M := 3000) (loose := DS.looseL) (d := HandSHeadRun.topDef (PySem.W.OpenLaw.row PySem.Challenge.rw_probefoundry_k60_presses).prog 22) (kwd := []) DS.ob_eq
    (by kernel_rfl) (fun s => by kernel_rfl) DS.run (by kernel_rfl) (by kernel_rfl) (by kernel_rfl) (by rfl) (by first | assumption | decide +kernel) (by decide +kernel) ⟨rfl, rfl, rfl, rfl, rfl, by decide +kernel⟩ ?hw ?hc
  case hw => w_witness2
  case hc => exact DS.law_endZ (l := PySem.Challenge.rw_probefoundry_k60_presses) rfl (by decide) (by kernel_rfl) ⟨rfl, by decide, by decide⟩ (by kernel_rfl) DS.bd_law DS.law_facts
