import PyProof.Rows.All
import HandS.TupMul
import Wide.All
import OpenK.AllK
import Wide.FinOn
import HandS.Iter
import KE.GoesMore
import KE.GoesEnum
import PyProof.EnumMake
import HandS.Style
import HandS.TupAny
import HandS.Comp
import HandS.ForMost
import HandS.Deep
import HandS.Zip
import KE.DataMinMax
import KE.DataCmp
import HandS.ForExc
import HandS.IsInst
import PyProof.P3In
import PyProof.SumAny
import PyProof.ReprRoads
import PyProof.CallFns
import HandS.Conv
import HandS.ExcOwn
import HandS.WordsExc
import HandS.Ends
import HandS.Defaults
import HandS.HeadHook1
import HandS.HeadHook2
import HandS.HeadHook3
import HandS.HeadHook4
import HandS.HeadEnd
import KE.KStateDown
import Lean
import HandS.Head0
import HandS.Head1
import HandS.Head2
import PyProof.ReprLen
import PyProof.P3Eq
import PySem.Challenge.RW_farbeats_k46_stands_with_so_many_lies
set_option Elab.async false
set_option linter.all false
set_option maxRecDepth 100000
set_option maxHeartbeats 4000000
/-! tuple * int, for any number up to a thousand -/
namespace L2
open PySem PySem.Spec PyProof.Rows
theorem tuple_mulOne (l : Addr) (items : Array Value) (n : Nat) (dd : Option Addr) (sl : Array (Option Value)) (x : Int) (u : Tok) (c0 : (decide (x < -(2 ^ 63)) || decide (x ≥ 2 ^ 63)) = false) (c1 : (items.isEmpty || x == 1) = true) :
    Meets (Builtin.«tuple.__mul__» ⟨[.ref l, .int x u], []⟩) (fun _ R s => s.heap.get? l = some { cls := .type "tuple", dict := dd, data := .seq items n, slots := sl } ∧ R (.ok (.ret (Value.ref l))) s) :=
  .of_wp fun prog w A R s h => by
    obtain ⟨hp, g, d, tk, os⟩ := s
    obtain ⟨hl, h⟩ := h
    have f1 := AutoSeq1.idx_int
    wp_walk using wpAny_loadPart' hl
    repeat (first
      | (refine wpAny_ite_false (decide_eq_false (by rw [c0]; exact Bool.false_ne_true)) ?_; wp_walk using wpAny_loadPart' hl)
      | (refine wpAny_ite_true (decide_eq_true c1) ?_; wp_walk using wpAny_loadPart' hl))
    exact ⟨_, rfl, h⟩
theorem tuple_mulNone (l : Addr) (items : Array Value) (n : Nat) (dd : Option Addr) (sl : Array (Option Value)) (x : Int) (u : Tok) (c0 : (decide (x < -(2 ^ 63)) || decide (x ≥ 2 ^ 63)) = false) (c1 : (items.isEmpty || x == 1) = false) (c2 : (decide (x ≤ 0) || items.isEmpty) = true) :
    Meets (Builtin.«tuple.__mul__» ⟨[.ref l, .int x u], []⟩) (fun _ R s => s.heap.get? l = some { cls := .type "tuple", dict := dd, data := .seq items n, slots := sl } ∧
      R (.ok (.ret (Value.ref s.heap.objs.size))) { s with heap := s.heap.push { cls := Value.type "tuple", data := Data.seq #[] }, toks := s.toks }) :=
  .of_wp fun prog w A R s h => by
    obtain ⟨hp, g, d, tk, os⟩ := s
    obtain ⟨hl, h⟩ := h
    have f1 := AutoSeq1.idx_int
    wp_walk using wpAny_loadPart' hl
    repeat (first
      | (refine wpAny_ite_false (decide_eq_false (by rw [c0]; exact Bool.false_ne_true)) ?_; wp_walk using wpAny_loadPart' hl)
      | (refine wpAny_ite_false (decide_eq_false (by rw [c1]; exact Bool.false_ne_true)) ?_; wp_walk using wpAny_loadPart' hl)
      | (refine wpAny_ite_true (decide_eq_true c2) ?_; wp_walk using wpAny_loadPart' hl))
    exact ⟨_, rfl, h⟩
section
variable {X : Cx}
/-- t * k, of whatever sizes -/
def rRepA (K : PySem.W.Frag) : R2 := fun x y H Q => ∃ l k xs, x = .ref l ∧ y = .int k ∧ SqT K H l xs ∧ 0 ≤ k ∧ k ≤ 1000 ∧ xs.length ≤ 1000 ∧ ((xs = [] ∨ k = 1) → Q (.ref l) H) ∧ (xs ≠ [] → k = 0 → ∀ p, H p = none → Q (.ref p) (upd H p (.tup []))) ∧
  (xs ≠ [] → 2 ≤ k → ∀ p, H p = none → Q (.ref p) (upd H p (.tup (List.replicate k.toNat xs).flatten)))
theorem op_repA : OpR X (binaryOp .Mult) (rRepA X.K) := by
  intro pins s σ H x y v u Q I rx ry h
  obtain ⟨l, k, xs, rfl, rfl, hT, h0, h2, hz, q1, q0, q2⟩ := h
  by_cases hx : xs ≠ [] ∧ 2 ≤ k
  · exact op_repT pins s σ H _ _ v u Q I rx ry ⟨l, k, xs, rfl, rfl, hT, hx.1, hx.2, h2, hz, q2 hx.1 hx.2⟩
  cases rx
  obtain ⟨t, rfl⟩ := ry
  obtain ⟨its, r, ⟨⟨cls, dd, data, sl⟩, ho, hc, n, hd⟩, hs⟩ := I.tuple hT
  simp only at hc hd
  subst hc hd
  have c0 : (decide (k < -(2 ^ 63)) || decide (k ≥ 2 ^ 63)) = false := by
    rw [decide_eq_false (by omega), decide_eq_false (by omega)] <;> rfl
  by_cases h1 : xs = [] ∨ k = 1
  · have c1 : (its.toArray.isEmpty || k == 1) = true := by
      rcases h1 with e | e
      · subst e
        cases r
        rfl
      · rw [e]
        simp
    exact wpAny_binaryOp_repeat_ref (T := "tuple") (U := "int") (by decide) ⟨_, ho, rfl⟩ (fun s' => typeIs_int s' k t) noFill_tuple_mul F.fills_int_mul F.slot_int_rmul repeat_tuple F.slot_int_index.lookup
      (call_meets F.slot_int_rmul (typeIs_int s k t) F.entry_int_rmul (F.args_int_rmul_2 _ _) (int_rmul_tuple k t l its.toArray n dd sl)
        ⟨ho, rfl, ⟨_, ho, rfl⟩, call_meets F.slot_tuple_mul ⟨_, ho, rfl⟩ F.entry_tuple_mul (F.args_tuple_mul_2 _ _) (tuple_mulOne l its.toArray n dd sl k t c0 c1) ⟨ho, .ref l, H, I, rfl, q1 h1⟩⟩)
  · have hne : xs ≠ [] := fun e => h1 (.inl e)
    have hk : k = 0 := by
      have a1 : k ≠ 1 := fun e => h1 (.inr e)
      have a2 : ¬ 2 ≤ k := fun e => hx ⟨hne, e⟩
      omega
    have hle : its.length = xs.length := r.length.symm
    have hn : its ≠ [] := fun e => hne (by
      rw [e] at hle
      exact List.eq_nil_of_length_eq_zero hle.symm)
    have hi : its.toArray.isEmpty = false := by
      cases its with
      | nil => exact absurd rfl hn
      | cons a b => rfl
    have c1 : (its.toArray.isEmpty || k == 1) = false := by
      rw [hi, hk]
      rfl
    have c2 : (decide (k ≤ 0) || its.toArray.isEmpty) = true := by
      rw [hk]
      rfl
    refine wpAny_binaryOp_repeat_ref (T := "tuple") (U := "int") (by decide) ⟨_, ho, rfl⟩ (fun s' => typeIs_int s' k t) noFill_tuple_mul F.fills_int_mul F.slot_int_rmul repeat_tuple F.slot_int_index.lookup
      (call_meets F.slot_int_rmul (typeIs_int s k t) F.entry_int_rmul (F.args_int_rmul_2 _ _) (int_rmul_tuple k t l its.toArray n dd sl)
        ⟨ho, rfl, ⟨_, ho, rfl⟩, call_meets F.slot_tuple_mul ⟨_, ho, rfl⟩ F.entry_tuple_mul (F.args_tuple_mul_2 _ _) (tuple_mulNone l its.toArray n dd sl k t c0 c1 c2) ⟨ho, ?_⟩⟩)
    refine ⟨.ref s.heap.objs.size, _, I.laid (t' := s.toks) (o := .tup []) (fun b ob q => Heap.get?_push_of_some _ q) (Nat.le_refl _) ?_, rfl, q0 hne hk _ (I.hok.fresh (Nat.le_refl _))⟩
    exact ⟨by simp, [], .nil, IsTup.new _ _⟩
end
end L2

set_option Elab.async false
set_option linter.all false
set_option maxRecDepth 100000
set_option maxHeartbeats 1000000
/-! enumerate over a tuple -/
namespace Fb
open PySem PySem.Spec PyProof.Rows L2 HT

theorem meets_enumT {v : Value} {o : Obj} {H : Heap → Prop} (B : Begins v o H) : Meets (Builtin.«enumerate.__new__» ⟨[.type "enumerate", v], []⟩) (fun _ R s => H s.heap ∧
      R (.ok (.ret (.ref (s.heap.push o).objs.size))) { s with heap := (s.heap.push o).push { cls := .type "enumerate", data := .fields #[.none, .bool false, .ref s.heap.objs.size, rawInt 0, .none, .none] } }) :=
  .of_wp fun prog w A R s h => by
    obtain ⟨hp, g, d, tk, os⟩ := s; obtain ⟨h1, h⟩ := h
    have hsub := sub_enumerate
    have q1 : ∀ {A' : Around} {E : Value → Shared → Prop} {Q : Value → Shared → Prop}, Q (.ref hp.objs.size) ⟨hp.push o, g, d, tk, os⟩ → wpAny (model prog w) A' (pyIter v) Q E ⟨hp, g, d, tk, os⟩ :=
      fun q => B.iter prog w _ _ ⟨hp, g, d, tk, os⟩ _ h1 q
    wp_walk using q1
    refine wpAny_stack_any fun st => wpAny_pure ?_
    split
    · rename_i c _ _ _ _ _
      cases (c == Value.type "enumerate")
      · wp_walk using q1
        exact ⟨_, rfl, h⟩
      · wp_walk using q1
        exact ⟨_, rfl, h⟩
    · wp_walk using q1
      exact ⟨_, rfl, h⟩
theorem call_enumT {prog : Program} {w : World} {A : Around} {E : Value → Shared → Prop} {s : Shared} {t : Addr} {items : Array Value} {Q : Value → Shared → Prop} (ht : s.heap.IsTuple t items)
    (h : ∀ h', IsEnum h' (s.heap.objs.size + 1) s.heap.objs.size 0 .none → h'.IsTupleIter s.heap.objs.size t 0 → (∀ b o, s.heap.get? b = some o → h'.get? b = some o) → Q (.ref (s.heap.objs.size + 1)) { s with heap := h' }) :
    wpAny (model prog w) A (call (.type "enumerate") [.ref t]) Q E s := by
  refine callType_new F.called_enumerate (by decide) (F.typeCall_enumerate_1 _) (F.newCall_enumerate_1 _) (fun obj => F.args_object_init_2 obj _) F.entry_enumerate_new (meets_enumT (begins_tuple t items)) ⟨ht, ?_⟩
  have hz : (s.heap.push { cls := .type "tuple_iterator", data := .fields #[.ref t, .int 0 0] }).objs.size = s.heap.objs.size + 1 := Heap.size_push ..
  show _ ∧ _
  rw [hz]
  have he := Heap.get?_push_size (s.heap.push { cls := .type "tuple_iterator", data := .fields #[.ref t, .int 0 0] }) (o := { cls := .type "enumerate", data := .fields #[.none, .bool false, .ref s.heap.objs.size, rawInt 0, .none, .none] }) rfl
  rw [hz] at he
  exact ⟨⟨_, he, rfl⟩, h _ he ⟨_, Heap.get?_push_of_some _ (Heap.get?_push_size _ rfl), rfl, rfl⟩ fun b o x => Heap.get?_push_of_some _ (Heap.get?_push_of_some _ x)⟩
/-- the tuple at a, its items in new pairs with their numbers -/
def IteT (K : PySem.W.Frag) (a : Addr) : L2.It :=
  ⟨fun i H => ∃ (xs : List V) (x : V), SqT K H a xs ∧ xs[i]? = some x, fun i H v H' => ∃ T x, v = .ref T ∧ H T = none ∧ H' = upd H T (.tup [.int (i : Nat), x]) ∧ ∀ xs, SqT K H a xs → xs[i]? = some x, fun i H => ∃ xs : List V, SqT K H a xs ∧ xs.length = i⟩
theorem turn_enumT {P : Program} {w : World} {K : PySem.W.Frag} {elts : List Expr} {kk : Nat} {tpos : Pos} {a e it : Addr} (hae : a ≠ e) (hai : a ≠ it) :
    Turn P w K (.Tuple elts kk tpos) (IteT K a) [e, it] e (fun i h => (∃ old, IsEnum h e it ((i : Nat) : Int) old) ∧ h.IsTupleIter it a i ∧ e ≠ it) where
  mem := List.mem_cons_self
  obj := fun i h st b hb => by
    obtain ⟨⟨old, he⟩, ⟨o, ho, hc, hd⟩, _⟩ := st
    rcases List.mem_cons.mp hb with z | z
    · rw [z]
      exact ⟨_, he, fun v q => nomatch q⟩
    · exact ⟨o, by rw [List.mem_singleton.mp z]; exact ho, fun v q => by rw [hd] at q; cases q⟩
  keep := fun i h h' st k => by
    obtain ⟨⟨old, he⟩, hi, hne⟩ := st
    exact ⟨⟨old, k e List.mem_cons_self _ he⟩, hi.at fun o q => k it (List.mem_cons_of_mem _ List.mem_cons_self) o q, hne⟩
  item := fun X hP hw hK hc i pins s σ H E I hf st hgo => by
    obtain ⟨⟨old, he⟩, hit, hne⟩ := st
    obtain ⟨xs, x, hq, hx⟩ := hgo
    subst hP hw hK
    obtain ⟨its, rv, p, hz⟩ := I.tuple hq
    obtain ⟨u, hu, ru⟩ := rv.get hx
    have hel := Heap.lt_size he
    have hil : it < s.heap.objs.size := by
      obtain ⟨_, q, _⟩ := id hit
      exact Heap.lt_size q
    have D := Draws.tuple (prog := X.prog) (w := X.w) (A := X.A.in1) (I.ok.hd hc) it a hai its.toArray
    have hlt : i < its.toArray.size := by
      have := (List.getElem?_eq_some_iff.mp hu).1
      simpa using this
    have hef : e ∉ [it, a] := by
      simp only [List.mem_cons, List.not_mem_nil, or_false, not_or]
      exact ⟨hne, fun z => hae z.symm⟩
    refine wpAny_pyNext_enum_itemD D he ⟨hit, p⟩ hlt hne hef fun y h' tk hy ho hst hT hsz hk => ?_
    have ey : y = u := by
      have hu' : its.toArray[i]? = some u := by simpa using hu
      rw [hu'] at hy
      exact (Option.some.inj hy).symm
    subst ey
    refine ⟨_, rfl, wpAny_letOwnedTupleGo_enum (s := { s with heap := h', toks := tk + 1 }) ho fun h'' he' sb => ?_⟩
    have hT2 : h''.get? s.heap.objs.size = some { cls := .type "tuple", data := .seq #[.int i tk, y] } := (sb.2 _ (Nat.ne_of_gt hel)).trans hT
    have I1 : Inv X pins σ (upd H s.heap.objs.size (.tup [.int (i : Nat), x])) { s with heap := h'', toks := tk + 1 } :=
      I.turnedNew (ch := [e, it]) (fun b ob hb q => (sb.2 b (fun z => hb (z ▸ List.mem_cons_self))).trans (hk b ob (fun z => hb (z ▸ List.mem_cons_self)) (fun z => hb (z ▸ List.mem_cons_of_mem _ List.mem_cons_self)) q)) hf (Nat.le_refl _)
        ⟨by show 2 ≤ sizeLine; decide, [.int i tk, y], .cons ⟨_, rfl⟩ (.cons ru .nil), ⟨_, hT2, rfl, _, rfl⟩⟩
    refine ⟨.ref s.heap.objs.size, _, I1, rfl, ⟨_, x, rfl, I.hok.fresh (Nat.le_refl _), rfl, fun ys hy => by rw [I.tuple_inj hy hq]; exact hx⟩, ⟨⟨y, ?_⟩, hst.1.at fun o q => (sb.2 it (Ne.symm hne)).trans q, hne⟩, fun b hb => ?_⟩
    · have e1 : ((i + 1 : Nat) : Int) = (i : Int) + 1 := by omega
      rw [e1]; exact he'
    · have hb' : b < s.heap.objs.size := by
        rcases List.mem_cons.mp hb with z | z
        · rw [z]; exact hel
        · rw [List.mem_singleton.mp z]; exact hil
      rw [upd_ne (Nat.ne_of_lt hb')]
      exact (hf b hb).1
  done := fun X hP hw hK hc i pins s σ H E I hf st hgo => by
    obtain ⟨⟨old, he⟩, hit, hne⟩ := st
    obtain ⟨xs, hq, hx⟩ := hgo
    subst hP hw hK
    obtain ⟨its, rv, p, hz⟩ := I.tuple hq
    obtain ⟨f0, f1, f2, f3, f4, f5⟩ := hf it (List.mem_cons_of_mem _ List.mem_cons_self)
    have D := Draws.tuple (prog := X.prog) (w := X.w) (A := X.A.in1) (I.ok.hd hc) it a hai its.toArray
    have hl : its.toArray.size = i := by rw [List.size_toArray, ← rv.length, hx]
    exact wpAny_pyNext_enum_endD D he (by rw [hl]; exact ⟨hit, p⟩) fun h' eb => ⟨rfl, I.turned (t' := s.toks) (fun b o hb q => eb b o hb q) f0 f1 f3 f4 f5⟩
  self := fun A i s Q E st h => by
    obtain ⟨⟨_, he⟩, _⟩ := st
    exact wpAny_pyIter_enum he h
def iEnumA (K : PySem.W.Frag) (ta : TA) : TI := fun σ H R => ta σ H fun vs H1 => ∃ a xs, vs = [.ref a] ∧ ((SqL K H1 a xs ∧ R (Ite K a) H1) ∨ (SqT K H1 a xs ∧ R (IteT K a) H1))
theorem pi_enumA {X : Cx} {e : Expr} {ta : TA} {p pos tpos : Pos} {elts : List Expr} {kk : Nat} (hg : Gl X "enumerate") (hm : X.mg "enumerate" = none) (ha : PA X [e] ta) (hs : starEach [e] X.env = [(false, eval e X.env)] := by rfl) :
    PI X (.Tuple elts kk tpos) (.Call (.Name "enumerate" p) [e] [] pos) (iEnumA X.K ta) := by
  refine ⟨fun pins s σ H R I h => ?_⟩
  refine Call_ (ld_blt I hg hm boot_enumerate (PyProof.Rows.callWith_type1 (thn (ha.run pos pins s σ H _ I h) fun us s1 ⟨vs, H1, I1, r1, a, xs, ex, q⟩ => ?_) hs rfl))
  subst ex
  cases r1 with
  | cons r rr =>
    cases rr
    cases r
    have fr : ∀ b, b ∈ [s1.heap.objs.size + 1, s1.heap.objs.size] → FpOk X pins H1 b := fun b hb => by
      have hle : s1.heap.objs.size ≤ b := by
        rcases List.mem_cons.mp hb with z | z
        · rw [z]; exact Nat.le_add_right _ _
        · rw [List.mem_singleton.mp z]; exact Nat.le_refl _
      exact I1.fpOk hle (I1.hok.fresh hle)
    rcases q with ⟨hq, q⟩ | ⟨hq, q⟩
    · obtain ⟨its, rv, p', hz⟩ := I1.list hq
      refine call_enumerate_list p'.isList fun h' he hit hsz hk => wpAny_pyIter_enum he ?_
      exact ⟨s1.heap.objs.size + 1, [s1.heap.objs.size + 1, s1.heap.objs.size], _, _, H1, rfl, I1.kept (t' := s1.toks) hk, turn_enum a (s1.heap.objs.size + 1) s1.heap.objs.size, ⟨⟨.none, he⟩, hit, Nat.succ_ne_self _⟩, fr, q⟩
    · obtain ⟨its, rv, p', hz⟩ := I1.tuple hq
      have hlt : a < s1.heap.objs.size := by
        obtain ⟨_, z, _⟩ := id p'
        exact Heap.lt_size z
      refine call_enumT p' fun h' he hit hk => wpAny_pyIter_enum he ?_
      exact ⟨s1.heap.objs.size + 1, [s1.heap.objs.size + 1, s1.heap.objs.size], _, _, H1, rfl, I1.kept (t' := s1.toks) hk, turn_enumT (Nat.ne_of_lt (Nat.lt_succ_of_lt hlt)) (Nat.ne_of_lt hlt), ⟨⟨.none, he⟩, hit, Nat.succ_ne_self _⟩, fr, q⟩

/-! ### t[::-1] -/
section
variable {prog : Program} {w : World} {A : Around} {E : Value → Shared → Prop} {s : Shared}
theorem adjust_rev (n : Nat) : Builtin.Slice.sliceAdjust none none (-1) (n : Int) = ((n : Int) - 1, -1) := by
  unfold Builtin.Slice.sliceAdjust
  rfl
theorem places_rev (n : Nat) : Builtin.Slice.slicePlaces ((n : Int) - 1) (-1) (-1) = n := by
  unfold Builtin.Slice.slicePlaces
  rw [if_neg (by omega)]
  split
  · have e : ((n : Int) - 1 - -1 - 1) / (-(-1)) + 1 = n := by
      rw [show (-(-1) : Int) = 1 from rfl, Int.ediv_one]
      omega
    rw [e]
    rfl
  · omega
theorem applied_rev {sl : Addr} {vl vu vk : Value} {n : Nat} {Q : Int × Int × Nat → Shared → Prop} (hs : s.heap.IsSliceOf sl vl vu vk) (pl : IsPart vl none) (pu : IsPart vu none) (pk : IsPart vk (some (-1)))
    (h : Q ((n : Int) - 1, -1, n) s) : wpAny (model prog w) A (Builtin.Slice.sliceApplied (.ref sl) (pure (n : Int))) Q E s := by
  obtain ⟨os, hos, hcs, hds⟩ := id hs
  unfold Builtin.Slice.sliceApplied Builtin.Slice.sliceFields
  refine wpAny_bind (wpAny_bind (wpAny_field hos hds (x := vl) rfl (wpAny_bind (wpAny_field hos hds (x := vu) rfl (wpAny_bind (wpAny_field hos hds (x := vk) rfl (wpAny_pure ?_)))))))
  refine wpAny_bind (HT.slicePart_ pk ?_)
  show wpAny _ _ (if ((-1 : Int) == 0) = true then _ else _) _ _ s
  rw [if_neg (by decide)]
  refine wpAny_bind (HT.slicePart_ pl (wpAny_bind (HT.slicePart_ pu (wpAny_bind (wpAny_pure ?_)))))
  show wpAny _ _ (match Builtin.Slice.sliceAdjust none none (-1) (n : Int) with | (lo, hi) => pure (lo, (-1 : Int), Builtin.Slice.slicePlaces lo hi (-1))) _ _ s
  rw [adjust_rev n]
  show wpAny _ _ (pure ((n : Int) - 1, (-1 : Int), Builtin.Slice.slicePlaces ((n : Int) - 1) (-1) (-1))) _ _ s
  rw [places_rev]
  exact wpAny_pure h
theorem pick_rev (xs : Array Value) : ((List.range xs.size).filterMap fun (m : Nat) => xs[(((xs.size : Int) - 1) + (m : Int) * -1).toNat]?).toArray = xs.toList.reverse.toArray := by
  congr 1
  apply List.ext_getElem?
  have e : (fun (m : Nat) => xs[(((xs.size : Int) - 1) + (m : Int) * -1).toNat]?) = fun m => xs[xs.size - 1 - m]? := by
    funext m
    have : (((xs.size : Int) - 1) + (m : Int) * -1).toNat = xs.size - 1 - m := by omega
    rw [this]
  intro i
  rw [e]
  have f : (List.range xs.size).filterMap (fun m => xs[xs.size - 1 - m]?) = xs.toList.reverse := by
    rw [← PySem.W.krv_all xs, ← List.filterMap_reverse, ← PySem.W.krv_range, List.filterMap_map]
    rfl
  rw [f]
theorem getItem_tuple_rev {t sl : Addr} {items : Array Value} {vl vu vk : Value} {Q : Value → Shared → Prop} (ht : IsTup s.heap t items) (hs : s.heap.IsSliceOf sl vl vu vk) (pl : IsPart vl none) (pu : IsPart vu none) (pk : IsPart vk (some (-1)))
    (h : Q (.ref s.heap.objs.size) { s with heap := s.heap.push { cls := .type "tuple", data := .seq items.toList.reverse.toArray } }) (hsz : items.size ≤ sizeLine) : wpAny (model prog w) A (getItem (.ref t) (.ref sl)) Q E s := by
  have htake : sizeOk (.seq items.toList.reverse.toArray) := by
    show items.toList.reverse.toArray.size ≤ sizeLine
    rw [List.size_toArray, List.length_reverse, Array.length_toList]
    exact hsz
  obtain ⟨os, hos, hcs, hds⟩ := id hs
  have hTs : s.TypeIs (.ref sl) "slice" := ⟨os, hos, hcs⟩
  unfold getItem
  try with_reducible refine wpAny_holding ?_
  first | refine wpAny_bind (wpAny_pure ?_) | skip
  refine wpAny_bind (wpAny_sequenceKey ht.typeIs (by decide) ?_)
  refine wpAny_bind (wpAny_callSpecial?_slot (name := Str.ofString "__getitem__") ht.typeIs PyProof.Rows.slot_tuple_getitem
    (wpAny_call_entry PyProof.Rows.slot_tuple_getitem ht.typeIs entry_tuple_getitem ?_ (args_tuple_getitem _ _)))
  show wpAny _ _ (Builtin.Tuple.tupleItemsOf (.ref t) >>= _) _ _ s
  refine wpAny_bind (tupleItemsOf_ ht ?_)
  refine wpAny_bind (wpAny_typeOf hTs ?_)
  rw [if_pos (by decide)]
  refine wpAny_bind (applied_rev hs pl pu pk ?_)
  have hno : ¬ (((items.size : Int) - 1 == 0 && (-1 : Int) == 1 && items.size == items.size) = true) := by
    intro q
    rw [Bool.and_eq_true, Bool.and_eq_true] at q
    exact absurd (eq_of_beq q.1.2) (by decide)
  show wpAny _ _ (if ((items.size : Int) - 1 == 0 && (-1 : Int) == 1 && items.size == items.size) = true then _ else _) _ _ s
  rw [if_neg hno, pick_rev]
  first
    | exact wpAny_bind (m := Builtin.Tuple.tupleExact _) (wpAny_newObj_type (wpAny_pure ⟨_, rfl, wpAny_pure h⟩) htake)
    | exact wpAny_bind (m := Builtin.Tuple.tupleExact _) (wpAny_newObj_type (wpAny_bind (wpAny_pure (wpAny_pure ⟨_, rfl, wpAny_pure h⟩))) htake)
    | exact wpAny_bind (wpAny_bind (m := Builtin.Tuple.tupleExact _) (wpAny_newObj_type (wpAny_pure (wpAny_pure ⟨_, rfl, wpAny_pure h⟩)) htake))
    | exact wpAny_bind (wpAny_bind (m := Builtin.Tuple.tupleExact _) (wpAny_newObj_type (wpAny_pure ⟨_, rfl, wpAny_pure h⟩) htake))
end
/-- x[::-1], x a list or a tuple -/
def tRevA (K : PySem.W.Frag) (te : TE) : TE := fun σ H Q => te σ H fun x H1 => ∃ a xs, x = .ref a ∧ ((SqL K H1 a xs ∧ ∀ p, H1 p = none → Q (.ref p) (upd H1 p (.lst xs.reverse))) ∨ (SqT K H1 a xs ∧ ∀ p, H1 p = none → Q (.ref p) (upd H1 p (.tup xs.reverse))))
theorem pe_revA {X : Cx} {e : Expr} {te : TE} {k : Nat} {p1 p2 p3 pos : Pos} (he : PE X e te) : PE X (.Subscript e (.Slice none none (some (.UnaryOp .USub (.Constant (.int 1) k p1) p2)) p3) pos) (tRevA X.K te) := by
  refine ⟨fun pins s σ H Q I h => ?_⟩
  refine Subscript_ (thn (he.run pins s σ H _ I h) fun v s1 ⟨x, H1, I1, r1, a, xs, ex, q⟩ => ?_)
  subst ex
  cases r1
  have hst : PO X (some (.UnaryOp .USub (.Constant (.int 1) k p1) p2)) (tPart (tUn (rU fun i => .int (-i)) (tC (.int 1)))) := po_some (pe_un un_neg pe_int)
  refine wpAny_Slice (thn (po_none.run pins s1 σ H1 (fun o H2 => o = none ∧ H2 = H1) I1 ⟨rfl, rfl⟩) fun vl s2 ⟨l, H2, I2, pl, el, e2⟩ => ?_)
  subst el e2
  refine thn (po_none.run pins s2 σ H2 (fun o H3 => o = none ∧ H3 = H2) I2 ⟨rfl, rfl⟩) fun vu s3 ⟨u, H3, I3, pu, eu, e3⟩ => ?_
  subst eu e3
  refine thn (hst.run pins s3 σ H3 (fun o H4 => o = some (-1) ∧ H4 = H3) I3 ⟨1, rfl, -1, rfl, rfl, rfl⟩) fun vs s4 ⟨o, H4, I4, ps, eo, e4⟩ => ?_
  subst eo e4
  have I5 : Inv X pins σ H4 { s4 with heap := s4.heap.push { cls := .type "slice", data := .fields #[vl, vu, vs] } } := I4.kept (t' := s4.toks) fun b ob q => Heap.get?_push_of_some _ q
  show wpAny (model X.prog X.w) X.A (subscriptTail e (.Slice none none (some (.UnaryOp .USub (.Constant (.int 1) k p1) p2)) p3) (.ref a) (.ref s4.heap.objs.size)) (EP X pins σ Q) X.xe { s4 with heap := s4.heap.push { cls := .type "slice", data := .fields #[vl, vu, vs] } }
  rcases q with ⟨hx, q⟩ | ⟨hx, q⟩
  · obtain ⟨its, r, ht, hz⟩ := I5.list hx
    have hlen := r.length
    refine tail_any (ops := [.ref a, .ref s4.heap.objs.size]) ht.isList.typeIs (PySem.slot_list_getitem.lookup) ?_ (by with_unfolding_all rfl)
    refine wpAny_getItem_list_slice ht.isList (Heap.IsSliceOf.new _ vl vu vs) pl pu ps (by decide) ?_ (by rw [List.size_toArray]; omega)
    rw [PySem.W.krv_pick]
    exact ⟨.ref _, _, I5.laid (t' := s4.toks) (o := .lst xs.reverse) (fun b ob q => Heap.get?_push_of_some _ q) (Nat.le_refl _) ⟨by rw [List.length_reverse]; exact hz, _, 0, r.reverse, Heap.get?_push_size _ rfl⟩, rfl, q _ (I5.hok.fresh (Nat.le_refl _))⟩
  · obtain ⟨its, r, ht, hz⟩ := I5.tuple hx
    have hlen := r.length
    refine tail_any (ops := [.ref a, .ref s4.heap.objs.size]) ht.typeIs PyProof.Rows.slot_tuple_getitem.lookup ?_ (by with_unfolding_all rfl)
    refine getItem_tuple_rev ht (Heap.IsSliceOf.new _ vl vu vs) pl pu ps ?_ (by rw [List.size_toArray]; omega)
    exact ⟨.ref _, _, I5.laid (t' := s4.toks) (o := .tup xs.reverse) (fun b ob q => Heap.get?_push_of_some _ q) (Nat.le_refl _) ⟨by rw [List.length_reverse]; exact hz, _, r.reverse, IsTup.new _ _⟩, rfl, q _ (I5.hok.fresh (Nat.le_refl _))⟩

end Fb

set_option Elab.async false
set_option linter.all false
set_option maxRecDepth 100000
set_option maxHeartbeats 1000000
/-! comprehensions of any number of clauses -/
namespace Fb
open PySem PySem.Spec PyProof.Rows L2

/-- a clause as written, and how it is read -/
structure Cl where
  tg : Expr
  iter : Expr
  ifs : List Expr
def Cl.c (x : Cl) : Comprehension := ⟨x.tg, x.iter, x.ifs, 0⟩
structure Cr where
  wi : TI
  g : TG
  tt : TT
  vs : List Nat
abbrev TM := L2.St → Hp → (Hp → Prop) → Prop
def tLp (J : It) (g : TG) (tt : TT) (vs : List Nat) (inner : TM) (σ : L2.St) (H : Hp) (Nx : Hp → Prop) : Prop :=
  ∃ W : Nat → Nat → Hp → Prop, (∃ m, W 0 m H) ∧ ∀ i m H, W i m H → (J.stop i H ∧ Nx H) ∨ (J.go i H ∧ ∃ Nx1 : Hp → Prop, (∀ H', Nx1 H' → ∃ m', m' < m ∧ W (i + 1) m' H') ∧
    ∀ x H', J.yld i H x H' → g x (wipe σ vs) H' fun σ2 H2 => wipe σ2 vs = wipe σ vs ∧ tt σ2 H2 fun b H3 => if b = true then inner σ2 H3 Nx1 else Nx1 H3)
def tCls : List Cr → TM → TM
  | [], em => em
  | c :: r, em => fun σ H Nx => c.wi σ H fun J H1 => tLp J c.g c.tt c.vs (tCls r em) σ H1 Nx

section
variable {elt t0 i0 t1 i1 : Expr} {ifs0 ifs1 : List Expr} {scope : Scope} {pos : Pos} {it acc : Value} {env : PySem.Env} {gens : List Comprehension} {j : Nat}
theorem turn_out (h : gens[j]? = some ⟨t0, i0, ifs0, 0⟩) (h2 : gens[j + 1]? = some ⟨t1, i1, ifs1, 0⟩) :
    compTurn (.ListComp elt gens scope pos) j it acc env = (do
      standAt i0.pos
      match ← pyNext it with
      | none => pure (.done .next)
      | some v =>
        letOwnedTupleGo t0 it v
        assign t0 env v
        let mut ok := true
        for c in ifs0 do
          if ok then ok ← isTrue c env (eval c env)
        if ok then
          let x ← eval i1 env
          standAt i1.pos
          let x ← foldedSetIterable i1 env x
          let _ ← runOwn (.compStart (.ListComp elt gens scope pos) (j + 1) (← holding [x] (pyIter x)) acc env) env
        again (.compLoop (.ListComp elt gens scope pos) j it acc env)) := by
  unfold compTurn
  simp only [h, h2]
  rfl
theorem turn_in (h : gens[j]? = some ⟨t0, i0, ifs0, 0⟩) (h2 : gens[j + 1]? = none) :
    compTurn (.ListComp elt gens scope pos) j it acc env = (do
      standAt i0.pos
      match ← pyNext it with
      | none => pure (.done .next)
      | some v =>
        letOwnedTupleGo t0 it v
        assign t0 env v
        let mut ok := true
        for c in ifs0 do
          if ok then ok ← isTrue c env (eval c env)
        if ok then
          (do let _ ← call (.builtin "list.append") [acc, ← eval elt env])
        again (.compLoop (.ListComp elt gens scope pos) j it acc env)) := by
  unfold compTurn
  simp only [h, h2]
  rfl
end

section
variable {prog : Program} {w : World} {A : Around} {R : Result → Shared → Prop} {s : Shared} {e t0 i0 t1 i1 elt : Expr} {ifs0 ifs1 : List Expr} {scope : Scope} {pos : Pos} {it acc : Value} {env : PySem.Env} {gens : List Comprehension} {j : Nat}
theorem loop_out (h : gens[j]? = some ⟨t0, i0, ifs0, 0⟩) (h2 : gens[j + 1]? = some ⟨t1, i1, ifs1, 0⟩) (hs : ∀ x, foldedSetIterable i1 env x = pure x) (I : Nat → Shared → Prop)
    (turn : ∀ n s, I n s → wpAny (model prog w) A (pyNext it) (fun r s₁ => match r with
      | none => R (.ok .next) s₁
      | some v => wpAny (model prog w) A (letOwnedTupleGo t0 it v) (fun _ s₁' => wpAny (model prog w) A (assign t0 env v) (fun _ s₂ =>
          wpAny (model prog w) A (forIn ifs0 true fun c r => if r = true then do let ok ← isTrue c env (eval c env); pure (ForInStep.yield ok) else pure (ForInStep.yield r)) (fun ok s₃ =>
            if ok = true then wpAny (model prog w) A (eval i1 env) (fun x s₄ => wpAny (model prog w) A (pyIter x) (fun it1 s₅ =>
              codeAny (model prog w) A (.compStart (.ListComp elt gens scope pos) (j + 1) it1 acc env) (fun r s' => match r with
                | .ok _ => ∃ m, m < n ∧ I m s'
                | .error _ => False) s₅) (notedBy (model prog w) A env fun e s' => R (.error e) s') s₄) (notedBy (model prog w) A env fun e s' => R (.error e) s') s₃
            else ∃ m, m < n ∧ I m s₃) (notedBy (model prog w) A env fun e s' => R (.error e) s') s₂) (notedBy (model prog w) A env fun e s' => R (.error e) s') s₁') (notedBy (model prog w) A env fun e s' => R (.error e) s') s₁) (notedBy (model prog w) A env fun e s' => R (.error e) s') s)
    (n : Nat) (h : I n s) :
    codeAny (model prog w) A (.compLoop (.ListComp elt gens scope pos) j it acc env) R s := by
  refine codeAny_loop rfl I (fun n s hI => ?_) n h
  show wpAny _ A ((compTurn (.ListComp elt gens scope pos) j it acc env).onRaise (fun x => do noteFrame x env; theTreesLotGoes x)) _ _ s
  refine wpAny_noted ?_
  rw [turn_out (by assumption) h2]
  refine wpAny_bind (wpAny_standAt (wpAny_bind (wpAny_mono (turn n s hI) (fun r s₁ h₁ => ?_) fun _ _ h' => h')))
  cases r with
  | none => exact wpAny_pure h₁
  | some v =>
    refine wpAny_bind (wpAny_mono h₁ (fun _ s₁' h₁' => ?_) fun _ _ h' => h')
    refine wpAny_bind (wpAny_mono h₁' (fun _ s₂ h₂ => wpAny_bind (wpAny_mono h₂ (fun ok s₃ h₃ => ?_) fun _ _ h' => h')) fun _ _ h' => h')
    cases ok with
    | false => exact wpAny_pure ⟨rfl, h₃⟩
    | true =>
      refine wpAny_bind (wpAny_mono h₃ (fun x s₄ h₄ => ?_) fun _ _ h' => h')
      refine wpAny_bind (wpAny_standAt (wpAny_bind (wpAny_of_eq (hs x) (wpAny_bind (wpAny_holding (wpAny_mono h₄ (fun it1 s₅ h₅ => ?_) fun _ _ h' => h'))))))
      refine wpAny_bind (wpAny_runOwn ?_)
      rw [Around.mark_none]
      refine codeAny_mono h₅ fun r s' hr => ?_
      cases r with
      | ok f =>
        first
          | exact wpAny_pure ⟨rfl, hr⟩
          | exact wpAny_bind (wpAny_pure (wpAny_pure ⟨rfl, hr⟩))
      | error e => exact hr.elim
theorem loop_in (h : gens[j]? = some ⟨t0, i0, ifs0, 0⟩) (h2 : gens[j + 1]? = none) (I : Nat → Shared → Prop)
    (turn : ∀ n s, I n s → wpAny (model prog w) A (pyNext it) (fun r s₁ => match r with
      | none => R (.ok .next) s₁
      | some v => wpAny (model prog w) A (letOwnedTupleGo t0 it v) (fun _ s₁' => wpAny (model prog w) A (assign t0 env v) (fun _ s₂ =>
          wpAny (model prog w) A (forIn ifs0 true fun c r => if r = true then do let ok ← isTrue c env (eval c env); pure (ForInStep.yield ok) else pure (ForInStep.yield r)) (fun ok s₃ =>
            if ok = true then wpAny (model prog w) A (eval elt env) (fun x s₄ =>
              wpAny (model prog w) A (call (.builtin "list.append") [acc, x]) (fun _ s₅ => ∃ m, m < n ∧ I m s₅) (notedBy (model prog w) A env fun e s' => R (.error e) s') s₄) (notedBy (model prog w) A env fun e s' => R (.error e) s') s₃
            else ∃ m, m < n ∧ I m s₃) (notedBy (model prog w) A env fun e s' => R (.error e) s') s₂) (notedBy (model prog w) A env fun e s' => R (.error e) s') s₁') (notedBy (model prog w) A env fun e s' => R (.error e) s') s₁) (notedBy (model prog w) A env fun e s' => R (.error e) s') s)
    (n : Nat) (h : I n s) :
    codeAny (model prog w) A (.compLoop (.ListComp elt gens scope pos) j it acc env) R s := by
  refine codeAny_loop rfl I (fun n s hI => ?_) n h
  show wpAny _ A ((compTurn (.ListComp elt gens scope pos) j it acc env).onRaise (fun x => do noteFrame x env; theTreesLotGoes x)) _ _ s
  refine wpAny_noted ?_
  rw [turn_in (by assumption) h2]
  refine wpAny_bind (wpAny_standAt (wpAny_bind (wpAny_mono (turn n s hI) (fun r s₁ h₁ => ?_) fun _ _ h' => h')))
  cases r with
  | none => exact wpAny_pure h₁
  | some v =>
    refine wpAny_bind (wpAny_mono h₁ (fun _ s₁' h₁' => ?_) fun _ _ h' => h')
    refine wpAny_bind (wpAny_mono h₁' (fun _ s₂ h₂ => wpAny_bind (wpAny_mono h₂ (fun ok s₃ h₃ => ?_) fun _ _ h' => h')) fun _ _ h' => h')
    cases ok with
    | false => exact wpAny_pure ⟨rfl, h₃⟩
    | true =>
      exact wpAny_bind (wpAny_bind (wpAny_mono h₃ (fun x s₄ h₄ => wpAny_bind (wpAny_mono h₄ (fun _ s₅ h₅ => wpAny_pure (wpAny_pure ⟨rfl, h₅⟩)) fun _ _ h' => h')) fun _ _ h' => h'))
/-- a later clause's start -/
theorem start_ok (h1 : gens[j]? = some ⟨t1, i1, ifs1, 0⟩) (h0 : codeAny (model prog w) A (.compLoop (.ListComp elt gens scope pos) j it acc env) R s)
    (h : wpAny (model prog w) A (pyIter it) (fun it' s' => codeAny (model prog w) A (.compLoop (.ListComp elt gens scope pos) j it' acc env) R s') (notedBy (model prog w) A env fun x s' => R (.error x) s') s) :
    codeAny (model prog w) A (.compStart (.ListComp elt gens scope pos) j it acc env) R s := by
  refine codeAny_of_tree ?_
  show wpAny _ _ ((compStart (.ListComp elt gens scope pos) j it acc env).onRaise (fun x => do noteFrame x env; standAt theWindowsPlace)) _ _ s
  refine wpAny_notedAt ?_
  have hc : (clausesOf (.ListComp elt gens scope pos))[j]? = some ⟨t1, i1, ifs1, 0⟩ := h1
  unfold compStart
  rw [hc]
  show wpAny _ _ (ask >>= _) _ _ s
  refine wpAny_bind (wpAny_askSetting (wpAny_ite ?_))
  split
  · first
      | exact wpAny_bind (wpAny_pure (wpAny_pure (And.intro rfl h0)))
      | exact wpAny_pure (And.intro rfl h0)
  · first
      | exact wpAny_bind (wpAny_rule (wpAny_bind (wpAny_standAt (wpAny_bind (wpAny_mono h (fun it' s' h' => wpAny_pure (And.intro rfl h')) fun _ _ x => x)))))
      | (refine wpAny_bind (wpAny_rule ?_); show wpAny _ _ (standAt i1.pos >>= _) _ _ s; exact wpAny_bind (wpAny_standAt (wpAny_bind (wpAny_mono h (fun it' s' h' => wpAny_pure (And.intro rfl h')) fun _ _ x => x))))
end

abbrev noF {α : Type} : α → Shared → Prop := fun _ _ => False
/-- what stands behind the tests of clause j - 1 -/
def Behind (M : Model) (A : Around) (elt : Expr) (gens : List Comprehension) (scope : Scope) (pos : Pos) (acc : Value) (env : PySem.Env) (j : Nat) (Post : Shared → Prop) (s : Shared) : Prop := match gens[j]? with
  | some g => wpAny M A (eval g.iter env) (fun x s4 => wpAny M A (pyIter x) (fun it1 s5 => codeAny M A (.compStart (.ListComp elt gens scope pos) j it1 acc env) (fun r s' => match r with
      | .ok _ => Post s'
      | .error _ => False) s5) noF s4) noF s
  | none => wpAny M A (eval elt env) (fun x s4 => wpAny M A (call (.builtin "list.append") [acc, x]) (fun _ s5 => Post s5) noF s4) noF s
theorem thnG {α : Type} {t : Sem α} {Q : α → Shared → Prop} {M : Model} {A : Around} {E : Value → Shared → Prop} {s : Shared} (h : wpAny M A t Q noF s) : wpAny M A t Q E s := wpAny_mono h (fun _ _ h => h) fun _ _ z => False.elim z
structure ClOk (Y : Cx) (c : Cl) (r : Cr) : Prop where
  pi : PI Y c.tg c.iter r.wi
  pg : PG Y c.tg r.g
  pt : PTs Y c.ifs r.tt
  fs : ∀ env x, foldedSetIterable c.iter env x = pure x
def slotsCr : List Cr → List Nat
  | [] => []
  | c :: _ => c.vs
inductive ClsOk (Y : Cx) : List Cl → List Cr → Prop
  | nil : ClsOk Y [] []
  | cons {c : Cl} {r : Cr} {cs : List Cl} {rs : List Cr} : ClOk Y c r → (∀ i ∈ slotsCr rs, i ∈ r.vs) → ClsOk Y cs rs → ClsOk Y (c :: cs) (r :: rs)
/-- what is known behind a clause's turns -/
def Keeps (σ σ' : L2.St) (vs : List Nat) : Prop := σ'.length = σ.length ∧ ∀ (i : Nat) (v : V), i ∉ vs → σ[i]? = some (some v) → σ'[i]? = some (some v)
section
variable {Y : Cx} {elt : Expr} {gens : List Comprehension} {scope : Scope} {pos : Pos} {D : Addr}
/-- a clause's loop -/
theorem loop_j {c : Cl} {r : Cr} {us : List Nat} {inner : TM} {j : Nat} (hc : Y.calm = true) (hxe : ∀ e s, ¬ Y.xe e s) (hj : gens[j]? = some c.c) (okg : PG Y c.tg r.g) (okt : PTs Y c.ifs r.tt) (hus : ∀ i ∈ us, i ∈ r.vs) (hnext : ∀ g, gens[j + 1]? = some g → g.is_async = 0 ∧ ∀ env x, foldedSetIterable g.iter env x = pure x)
    (inn : ∀ (pins : List (Addr × Obj)) (s : Shared) (σ : L2.St) (H : Hp) (Nx : Hp → Prop), Inv Y pins σ H s → inner σ H Nx → Behind (model Y.prog Y.w) Y.A elt gens scope pos (.ref D) Y.env (j + 1) (fun s' => ∃ σ' H', Inv Y pins σ' H' s' ∧ Keeps σ σ' us ∧ Nx H') s)
    {J : It} {fp : List Addr} {it : Addr} {tn : Nat → Heap → Prop} {pins : List (Addr × Obj)} {σ : L2.St} {Nx : Hp → Prop} {R : Result → Shared → Prop} (T : Turn Y.prog Y.w Y.K c.tg J fp it tn)
    (stat : ∀ {σ' : L2.St} {H' : Hp} {s' : Shared}, Inv Y pins σ' H' s' → (∀ b ∈ fp, H' b = none) → ∀ b ∈ fp, FpOk Y pins H' b) {s : Shared} {H : Hp} (I : Inv Y pins (wipe σ r.vs) H s) (st : tn 0 s.heap) (nf : ∀ b ∈ fp, H b = none) (hW : tLp J r.g r.tt r.vs inner σ H Nx)
    (hend : ∀ s' H', Inv Y pins (wipe σ r.vs) H' s' → Nx H' → R (.ok .next) s') : codeAny (model Y.prog Y.w) Y.A (.compLoop (.ListComp elt gens scope pos) j (.ref it) (.ref D) Y.env) R s := by
  obtain ⟨W, ⟨m0, w0⟩, turn⟩ := hW
  have toF : ∀ {α : Type} {t : Sem α} {Q : α → Shared → Prop} {s : Shared}, wpAny (model Y.prog Y.w) Y.A t Q Y.xe s → wpAny (model Y.prog Y.w) Y.A t Q noF s := fun h => wpAny_mono h (fun _ _ h => h) fun e s z => (hxe e s z).elim
  -- one turn, whatever stands behind the tests
  have one : ∀ (n : Nat) (s5 : Shared) (Bh : (Shared → Prop) → Shared → Prop),
      (∀ (pins : List (Addr × Obj)) (s : Shared) (σ : L2.St) (H : Hp) (Nx : Hp → Prop), Inv Y pins σ H s → inner σ H Nx → ∀ Post : Shared → Prop, (∀ s', (∃ σ' H', Inv Y pins σ' H' s' ∧ Keeps σ σ' us ∧ Nx H') → Post s') → Bh Post s) →
      (∃ i H', Inv Y pins (wipe σ r.vs) H' s5 ∧ tn i s5.heap ∧ (∀ b ∈ fp, H' b = none) ∧ W i n H') →
      wpAny (model Y.prog Y.w) Y.A (pyNext (.ref it)) (fun r' s₁ => match r' with
        | none => R (.ok .next) s₁
        | some v => wpAny (model Y.prog Y.w) Y.A (letOwnedTupleGo c.tg (.ref it) v) (fun _ s₁' => wpAny (model Y.prog Y.w) Y.A (assign c.tg Y.env v) (fun _ s₂ =>
            wpAny (model Y.prog Y.w) Y.A (forIn c.ifs true fun c r => if r = true then do let ok ← isTrue c Y.env (eval c Y.env); pure (ForInStep.yield ok) else pure (ForInStep.yield r)) (fun ok s₃ =>
              if ok = true then Bh (fun s' => ∃ m, m < n ∧ ∃ i H', Inv Y pins (wipe σ r.vs) H' s' ∧ tn i s'.heap ∧ (∀ b ∈ fp, H' b = none) ∧ W i m H') s₃
              else ∃ m, m < n ∧ ∃ i H', Inv Y pins (wipe σ r.vs) H' s₃ ∧ tn i s₃.heap ∧ (∀ b ∈ fp, H' b = none) ∧ W i m H') noF s₂) noF s₁') noF s₁) noF s5 := by
    rintro n s5 Bh hB ⟨i, H5, I5, st5, n5, w5⟩
    rcases turn i n H5 w5 with ⟨stop, qq⟩ | ⟨go, Nx1, hNx, step⟩
    · refine thnF (T.done Y rfl rfl rfl hc i pins s5 _ H5 (fun _ _ => False) I5 (stat I5 n5) st5 stop) fun r s6 ⟨hr, I6⟩ => ?_
      subst hr
      exact hend s6 H5 I6 qq
    · refine thnF (T.item Y rfl rfl rfl hc i pins s5 _ H5 (fun _ _ => False) I5 (stat I5 n5) st5 go) fun r' s6 ⟨u, hr, h6⟩ => ?_
      subst hr
      refine thnF h6 fun _ s7 ⟨x, H7, I7, r7, y7, st7, n7⟩ => ?_
      have I7' := I7.pinned (stat I7 n7) (T.obj _ _ st7)
      refine wpAny_mono (toF (okg.run _ s7 _ H7 x u _ I7' r7 (step x H7 y7))) (fun _ s8 ⟨σ8, H8, I8, hw8, q8⟩ => ?_) fun _ _ z => z
      refine wpAny_mono (toF (okt.run _ s8 σ8 H8 _ I8 q8)) (fun b s9 ⟨H9, I9, q9⟩ => ?_) fun _ _ z => z
      -- the turn's end, from any slots that know what the loop knew at its start
      have fin : ∀ {σ9 : L2.St} {s' : Shared} {H' : Hp}, Inv Y (pins ++ pinsAt fp s7.heap) σ9 H' s' → (wipe σ r.vs).length = σ9.length → (∀ (k : Nat) v, (wipe σ r.vs)[k]? = some (some v) → σ9[k]? = some (some v)) → Nx1 H' →
          ∃ m, m < n ∧ ∃ i H', Inv Y pins (wipe σ r.vs) H' s' ∧ tn i s'.heap ∧ (∀ b ∈ fp, H' b = none) ∧ W i m H' := fun {σ9 s' H'} I' hl hk nx => by
        obtain ⟨m', hm, w'⟩ := hNx H' nx
        have pin' : ∀ b ∈ fp, ∀ o, s7.heap.get? b = some o → s'.heap.get? b = some o ∧ H' b = none := fun b hb o e =>
          let z := I'.pin (b, o) (List.mem_append_right _ (List.mem_append_right _ (mem_pinsAt hb e)))
          ⟨z.1, z.2.1⟩
        refine ⟨m', hm, i + 1, H', (I'.unpinned (pins := pins)).weak hl hk, T.keep _ _ _ st7 fun b hb o e => (pin' b hb o e).1, fun b hb => ?_, w'⟩
        obtain ⟨o, e, _⟩ := T.obj _ _ st7 b hb
        exact (pin' b hb o e).2
      have hl8 : (wipe σ r.vs).length = σ8.length := by rw [← hw8, wipe_length]
      have hk8 : ∀ (k : Nat) v, (wipe σ r.vs)[k]? = some (some v) → σ8[k]? = some (some v) ∧ k ∉ us := fun k v e => by
        rw [← hw8] at e
        obtain ⟨e1, e2⟩ := wipe_some e
        exact ⟨e1, fun z => e2 (hus k z)⟩
      cases b with
      | false =>
        simp only [Bool.false_eq_true, if_false] at q9 ⊢
        exact fin I9 hl8 (fun k v e => (hk8 k v e).1) q9
      | true =>
        simp only [if_true] at q9 ⊢
        refine hB _ s9 σ8 H9 Nx1 I9 q9 _ ?_
        rintro s' ⟨σ', H', I', ⟨kl, kk⟩, nx⟩
        exact fin I' (hl8.trans kl.symm) (fun k v e => kk k v (hk8 k v e).2 (hk8 k v e).1) nx
  have weak : ∀ {α : Type} {t : Sem α} {Q : α → Shared → Prop} {E : Value → Shared → Prop} {s : Shared}, wpAny (model Y.prog Y.w) Y.A t Q noF s → wpAny (model Y.prog Y.w) Y.A t Q E s := fun h => thnG h
  obtain ⟨tg, iter, ifs⟩ := c
  have hj : gens[j]? = some ⟨tg, iter, ifs, 0⟩ := hj
  cases h2 : gens[j + 1]? with
  | some g =>
    obtain ⟨ha, hf⟩ := hnext g h2
    obtain ⟨t1, i1, ifs1, z⟩ := g
    have ha : z = 0 := ha
    subst ha
    refine loop_out hj h2 (hf _) (fun n s' => ∃ i H', Inv Y pins (wipe σ r.vs) H' s' ∧ tn i s'.heap ∧ (∀ b ∈ fp, H' b = none) ∧ W i n H') (fun n s5 h5 => ?_) m0 ⟨0, H, I, st, nf, w0⟩
    refine weak (wpAny_mono (one n s5 (fun Post s => Behind (model Y.prog Y.w) Y.A elt gens scope pos (.ref D) Y.env (j + 1) Post s) (fun pins s σ H Nx I q Post hP => ?_) h5) (fun r' s6 h6 => ?_) fun _ _ z => z)
    · have b := inn pins s σ H Nx I q
      unfold Behind at b ⊢
      rw [h2] at b ⊢
      refine wpAny_mono b (fun x s4 b4 => wpAny_mono b4 (fun it1 s5 b5 => codeAny_mono b5 fun rr s' hr => ?_) fun _ _ z => z) fun _ _ z => z
      cases rr with
      | ok f => exact hP s' hr
      | error _ => exact hr
    · cases r' with
      | none => exact h6
      | some v =>
        refine weak (wpAny_mono h6 (fun _ s7 h7 => weak (wpAny_mono h7 (fun _ s8 h8 => weak (wpAny_mono h8 (fun okb s9 h9 => ?_) fun _ _ z => z)) fun _ _ z => z)) fun _ _ z => z)
        cases okb with
        | false => exact h9
        | true =>
          simp only [if_true] at h9 ⊢
          unfold Behind at h9
          rw [h2] at h9
          exact weak (wpAny_mono h9 (fun x s4 b4 => weak b4) fun _ _ z => z)
  | none =>
    refine loop_in hj h2 (fun n s' => ∃ i H', Inv Y pins (wipe σ r.vs) H' s' ∧ tn i s'.heap ∧ (∀ b ∈ fp, H' b = none) ∧ W i n H') (fun n s5 h5 => ?_) m0 ⟨0, H, I, st, nf, w0⟩
    refine weak (wpAny_mono (one n s5 (fun Post s => Behind (model Y.prog Y.w) Y.A elt gens scope pos (.ref D) Y.env (j + 1) Post s) (fun pins s σ H Nx I q Post hP => ?_) h5) (fun r' s6 h6 => ?_) fun _ _ z => z)
    · have b := inn pins s σ H Nx I q
      unfold Behind at b ⊢
      rw [h2] at b ⊢
      exact wpAny_mono b (fun x s4 b4 => wpAny_mono b4 (fun _ s5 b5 => hP s5 b5) fun _ _ z => z) fun _ _ z => z
    · cases r' with
      | none => exact h6
      | some v =>
        refine weak (wpAny_mono h6 (fun _ s7 h7 => weak (wpAny_mono h7 (fun _ s8 h8 => weak (wpAny_mono h8 (fun okb s9 h9 => ?_) fun _ _ z => z)) fun _ _ z => z)) fun _ _ z => z)
        cases okb with
        | false => exact h9
        | true =>
          simp only [if_true] at h9 ⊢
          unfold Behind at h9
          rw [h2] at h9
          exact weak (wpAny_mono h9 (fun x s4 b4 => weak b4) fun _ _ z => z)
/-- all that stands behind a clause's tests -/
theorem behind_ok {em : TM} (hc : Y.calm = true) (hxe : ∀ e s, ¬ Y.xe e s)
    (hem : ∀ (pins : List (Addr × Obj)) (s : Shared) (σ : L2.St) (H : Hp) (Nx : Hp → Prop), Inv Y pins σ H s → em σ H Nx → wpAny (model Y.prog Y.w) Y.A (eval elt Y.env) (fun x s4 => wpAny (model Y.prog Y.w) Y.A (call (.builtin "list.append") [.ref D, x]) (fun _ s5 => ∃ H', Inv Y pins σ H' s5 ∧ Nx H') noF s4) noF s) :
    ∀ (cs : List Cl) (rs : List Cr) (j : Nat), ClsOk Y cs rs → gens.drop j = cs.map Cl.c → ∀ (pins : List (Addr × Obj)) (s : Shared) (σ : L2.St) (H : Hp) (Nx : Hp → Prop), Inv Y pins σ H s → tCls rs em σ H Nx →
      Behind (model Y.prog Y.w) Y.A elt gens scope pos (.ref D) Y.env j (fun s' => ∃ σ' H', Inv Y pins σ' H' s' ∧ Keeps σ σ' (slotsCr rs) ∧ Nx H') s
  | [], [], j, _, hg, pins, s, σ, H, Nx, I, q => by
    have h : gens[j]? = none := by
      rw [List.getElem?_eq_none_iff]
      have := congrArg List.length hg
      simp at this
      omega
    unfold Behind
    rw [h]
    exact wpAny_mono (hem pins s σ H Nx I q) (fun x s4 h4 => wpAny_mono h4 (fun _ s5 ⟨H', I', nx⟩ => ⟨σ, H', I', ⟨rfl, fun _ _ _ e => e⟩, nx⟩) fun _ _ z => z) fun _ _ z => z
  | c :: cs, r :: rs, j, ho, hg, pins, s, σ, H, Nx, I, q => by
    cases ho with
    | cons ok hus ho =>
      have hj : gens[j]? = some c.c := by
        have h := congrArg (fun l => l[0]?) hg
        simpa using h
      have hg' : gens.drop (j + 1) = cs.map Cl.c := by
        have h := congrArg (List.drop 1) hg
        rw [List.drop_drop] at h
        simpa [Nat.add_comm] using h
      have hnext : ∀ g, gens[j + 1]? = some g → g.is_async = 0 ∧ ∀ env x, foldedSetIterable g.iter env x = pure x := fun g h => by
        have h2 := congrArg (fun l => l[0]?) hg'
        simp only [List.getElem?_drop, Nat.add_zero, h] at h2
        cases cs with
        | nil => simp at h2
        | cons c2 cs2 =>
          simp at h2
          subst h2
          cases ho with
          | cons ok2 _ _ => exact ⟨rfl, ok2.fs⟩
      have ih := behind_ok hc hxe hem cs rs (j + 1) ho hg'
      have toF : ∀ {α : Type} {t : Sem α} {Q : α → Shared → Prop} {s : Shared}, wpAny (model Y.prog Y.w) Y.A t Q Y.xe s → wpAny (model Y.prog Y.w) Y.A t Q noF s := fun h => wpAny_mono h (fun _ _ h => h) fun e s z => (hxe e s z).elim
      unfold Behind
      rw [hj]
      refine wpAny_mono (toF (ok.pi.run pins s σ H _ I q)) (fun xv s10 hx => wpAny_mono (toF hx) (fun itv s11 h11 => ?_) fun _ _ z => z) fun _ _ z => z
      obtain ⟨it1, fp1, tn1, J1, H11, e1, I11, T1, st11, f11, hW⟩ := h11
      subst e1
      have nf : ∀ b ∈ fp1, H11 b = none := fun b hb => (f11 b hb).1
      have loop : codeAny (model Y.prog Y.w) Y.A (.compLoop (.ListComp elt gens scope pos) j (.ref it1) (.ref D) Y.env) (fun r' s' => match r' with
          | .ok _ => ∃ σ' H', Inv Y pins σ' H' s' ∧ Keeps σ σ' (slotsCr (r :: rs)) ∧ Nx H'
          | .error _ => False) s11 :=
        loop_j hc hxe hj ok.pg ok.pt hus hnext ih T1 (fun _ hn b hb => ⟨hn b hb, (f11 b hb).2⟩) (I11.weak (wipe_length _ _) fun k v e => (wipe_some e).1) st11 nf hW
          fun s' H' I' nx => ⟨wipe σ r.vs, H', I', ⟨wipe_length _ _, fun i v hi e => by rw [wipe_out (show i ∉ r.vs from hi)]; exact e⟩, nx⟩
      exact start_ok hj loop (T1.self Y.A 0 _ _ _ st11 loop)
  | [], _ :: _, _, ho, _, _, _, _, _, _, _, _ => by cases ho
  | _ :: _, [], _, ho, _, _, _, _, _, _, _, _ => by cases ho
end

section
variable {X : Cx}
/-- [elt for .. for ..]: the first clause, the ones behind it -/
def tLcN (c : Cr) (rs : List Cr) (te : TE) : TE := fun σ H Q => c.wi σ H fun J H1 => ∀ D, H1 D = none →
  tLp J c.g c.tt c.vs (tCls rs fun σ2 H2 Nx => te σ2 H2 fun y H3 => ∃ acc, H3 D = some (.lst acc) ∧ acc.length < sizeLine ∧ Nx (upd H3 D (.lst (acc ++ [y])))) σ (upd H1 D (.lst [])) (Q (.ref D))
theorem lcN_core {pins : List (Addr × Obj)} {s : Shared} {σ : L2.St} {H : Hp} {Q : VK} {elt : Expr} {c : Cl} {cs : List Cl} {r : Cr} {rs : List Cr} {scope : Scope} {own : List (Str × Nat)} {pos pos' : Pos} {te : TE} {use : Option (Value → Sem Unit)} {Qf : Value → Shared → Prop}
    (hc : X.calm = true) (hN : X.N.Nodup) (I : Inv X pins σ H s) (hi : PI X c.tg c.iter r.wi) (ok : BlkOk X.N X.env.scope scope own) (hr : r.vs = own.map (·.2)) (hus : ∀ i ∈ slotsCr rs, i ∈ r.vs)
    (hg : ∀ (s : Shared) (H : Hp) (C : Addr) (cl : List (Str × Addr)) (fp : List Addr), PG (X.blk s H scope (compEnvC scope cl C X.env) fp) c.tg r.g) (ht : ∀ (s : Shared) (H : Hp) (C : Addr) (cl : List (Str × Addr)) (fp : List Addr), PTs (X.blk s H scope (compEnvC scope cl C X.env) fp) c.ifs r.tt)
    (hcs : ∀ (s : Shared) (H : Hp) (C : Addr) (cl : List (Str × Addr)) (fp : List Addr), ClsOk (X.blk s H scope (compEnvC scope cl C X.env) fp) cs rs)
    (he : ∀ (s : Shared) (H : Hp) (C : Addr) (cl : List (Str × Addr)) (fp : List Addr), PE (X.blk s H scope (compEnvC scope cl C X.env) fp) elt te) (hs : ∀ x, foldedSetIterable c.iter X.env x = pure x)
    (h : tLcN r rs te σ H Q)
    (hRR : ∀ D C s' m H', Inv X pins σ H' s' → Q (.ref D) H' → s'.heap.Ns C m → FpOk X pins H' C → compPost (model X.prog X.w) X.A X.xe use Qf (.ref D) C (.ok .next) s') :
    wpAny (model X.prog X.w) X.A (comprehension (.ListComp elt (c.c :: cs.map Cl.c) scope pos) scope X.env pos' (newList []) false (eval c.iter X.env) use) Qf X.xe s := by
  have hfree : ∀ y ∈ scope.names, y.2 = .free → ∃ c, X.env.cells.lookup y.1 = some c := fun y hy e => by
    rcases ok.free y hy e with k | k
    · exact I.ok.has _ (.inl k)
    · exact I.ok.has _ (.inr k)
  obtain ⟨tg, iter, ifs⟩ := c
  refine wpAny_comprehension_free (use := use) rfl hs (closure_ok hfree) ok.kind (fun y hy e => by rw [ok.uniq y hy, e])
    (thn (hi.run pins s σ H _ I h) fun xv s1 hx => thn hx fun itv s2 h2 => ?_)
  obtain ⟨it, fp, tn, J, H2, e, I2, T, st2, f2, q⟩ := h2
  subst e
  refine wpAny_newObj_type (newEnv_comp ?_) (by show 0 ≤ sizeLine; decide)
  generalize hD : s2.heap.objs.size = D
  have hDn : H2 D = none := I2.hok.fresh (Nat.le_of_eq hD)
  have hW := q D hDn
  -- the new list
  generalize hs3 : ({ s2 with heap := s2.heap.push { cls := .type "list", data := .seq ([] : List Value).toArray } } : Shared) = s3
  have I3 : Inv X pins σ (upd H2 D (.lst [])) s3 := by
    rw [← hs3]
    refine I2.laid (t' := s2.toks) (fun b o e => Heap.get?_push_of_some _ e) (Nat.le_of_eq hD) ⟨Nat.zero_le _, [], 0, .nil, ?_⟩
    rw [← hD]
    exact Heap.get?_push_size _ rfl
  have h3 : s3.heap = s2.heap.push { cls := .type "list", data := .seq ([] : List Value).toArray } := by rw [← hs3]
  have sz : ∀ b ∈ fp, b < s2.heap.objs.size := fun b hb => by
    obtain ⟨o, e, _⟩ := T.obj _ _ st2 b hb
    exact Heap.lt_size e
  have f3 : ∀ b ∈ fp, FpOk X pins (upd H2 D (.lst [])) b ∧ b < s3.heap.objs.size := fun b hb => by
    have hlt := sz b hb
    refine ⟨⟨?_, (f2 b hb).2⟩, by rw [h3, Heap.size_push]; exact Nat.lt_succ_of_lt hlt⟩
    rw [upd_ne (by rw [← hD]; exact Nat.ne_of_lt hlt)]
    exact (f2 b hb).1
  have st3 : tn 0 s3.heap := T.keep _ _ _ st2 fun b _ o e => by rw [h3]; exact Heap.get?_push_of_some _ e
  have I4 := block_start I3 ok hN f3
  have pg := hg s3 (upd H2 D (.lst [])) s3.heap.objs.size (cellsFrom (s3.heap.objs.size + 1) scope.names (cloFrom X.env.cells scope.names [])) fp
  have pt := ht s3 (upd H2 D (.lst [])) s3.heap.objs.size (cellsFrom (s3.heap.objs.size + 1) scope.names (cloFrom X.env.cells scope.names [])) fp
  have pe := he s3 (upd H2 D (.lst [])) s3.heap.objs.size (cellsFrom (s3.heap.objs.size + 1) scope.names (cloFrom X.env.cells scope.names [])) fp
  have pcs := hcs s3 (upd H2 D (.lst [])) s3.heap.objs.size (cellsFrom (s3.heap.objs.size + 1) scope.names (cloFrom X.env.cells scope.names [])) fp
  show codeAny _ _ (.compStart (.ListComp elt (⟨tg, iter, ifs, 0⟩ :: cs.map Cl.c) scope pos) 0 (.ref it) (.ref D) (compEnvC scope (cellsFrom (s3.heap.objs.size + 1) scope.names (cloFrom X.env.cells scope.names [])) s3.heap.objs.size X.env)) (compPost (model X.prog X.w) X.A X.xe use Qf (.ref D) s3.heap.objs.size) { s3 with heap := pushCells (s3.heap.push { cls := .type "dict", data := .dict #[] }) scope.names }
  have nfp : ∀ b ∈ fp, (upd H2 D (.lst [])) b = none := fun b hb => (f3 b hb).1.1
  generalize hce : compEnvC scope (cellsFrom (s3.heap.objs.size + 1) scope.names (cloFrom X.env.cells scope.names [])) s3.heap.objs.size X.env = ce at I4 pg pt pe pcs ⊢
  have cL : ce.locals = s3.heap.objs.size := by subst hce; rfl
  generalize hH3 : upd H2 D (.lst []) = H3 at I3 I4 pg pt pe pcs hW nfp f3
  generalize hs4 : ({ s3 with heap := pushCells (s3.heap.push { cls := .type "dict", data := .dict #[] }) scope.names } : Shared) = s4 at I4 ⊢
  have st4 : tn 0 s4.heap := T.keep _ _ _ st3 fun b _ o e => by rw [← hs4]; exact pushCells_keeps _ _ _ _ (Heap.get?_push_of_some _ e)
  have stat : ∀ {σ' : L2.St} {H' : Hp} {s' : Shared}, Inv (X.blk s3 H3 scope ce fp) [] σ' H' s' → (∀ b ∈ fp, H' b = none) → ∀ b ∈ fp, FpOk (X.blk s3 H3 scope ce fp) [] H' b := fun {σ' H' s'} I' hn b hb =>
    ⟨hn b hb, (I'.ok.exf b hb).1, I'.ok.exfs b hb, .inl hb, fun x c e => (I'.ok.exf b hb).2 x c e, fun p hp => absurd (show p ∈ ([] : List (Addr × Obj)) ++ [] from hp) (by simp)⟩
  have hxe : ∀ e s, ¬ (X.blk s3 H3 scope ce fp).xe e s := fun e s z => z
  have hem : ∀ (pins : List (Addr × Obj)) (s : Shared) (σ : L2.St) (H : Hp) (Nx : Hp → Prop), Inv (X.blk s3 H3 scope ce fp) pins σ H s → (te σ H fun y H3 => ∃ acc, H3 D = some (.lst acc) ∧ acc.length < sizeLine ∧ Nx (upd H3 D (.lst (acc ++ [y])))) →
      wpAny (model X.prog X.w) X.A (eval elt ce) (fun x s4 => wpAny (model X.prog X.w) X.A (call (.builtin "list.append") [.ref D, x]) (fun _ s5 => ∃ H', Inv (X.blk s3 H3 scope ce fp) pins σ H' s5 ∧ Nx H') noF s4) noF s := fun pins s σ H Nx I' q => by
    refine wpAny_mono (pe.run pins s σ H _ I' q) (fun z s5 ⟨yv, H5, I5, r5, acc, hD5, hz5, nx⟩ => ?_) fun _ _ z => z
    exact app_ok (X := X.blk s3 H3 scope ce fp) I5 hD5 hz5 r5 fun s6 I6 => ⟨_, I6, nx⟩
  have inn := behind_ok (Y := X.blk s3 H3 scope ce fp) (elt := elt) (gens := ⟨tg, iter, ifs, 0⟩ :: cs.map Cl.c) (scope := scope) (pos := pos) (D := D) hc hxe hem cs rs 1 pcs rfl
  have hr' : wipe σ r.vs = wipe σ (own.map (·.2)) := by rw [hr]
  have loop : codeAny (model X.prog X.w) X.A (.compLoop (.ListComp elt (⟨tg, iter, ifs, 0⟩ :: cs.map Cl.c) scope pos) 0 (.ref it) (.ref D) ce) (compPost (model X.prog X.w) X.A X.xe use Qf (.ref D) s3.heap.objs.size) s4 := by
    refine loop_j (Y := X.blk s3 H3 scope ce fp) (c := ⟨tg, iter, ifs⟩) (r := ⟨fun _ _ _ => False, r.g, r.tt, r.vs⟩) (us := slotsCr rs) (j := 0) hc hxe rfl pg pt hus (fun g h => ?_) inn T stat (by rw [hr']; exact I4) st4 nfp hW fun s6 H5 I6 qq => ?_
    · cases cs with
      | nil => cases h
      | cons c2 cs2 =>
        cases h
        cases pcs with
        | cons ok2 _ _ => exact ⟨rfl, ok2.fs⟩
    · rw [hr'] at I6
      -- back in the def's context
      have I7 : Inv X pins σ H5 s6 := I3.call' (ch := fp) I6.os I6.base I6.hok I6.bare fun b hb => ⟨(f3 b hb).1.2.2.2.1, (f3 b hb).1.2.1, (f3 b hb).1.2.2.2.2.1, (f3 b hb).1.2.2.2.2.2⟩
      have nC : H5 s3.heap.objs.size = none := by
        have z : H5 ce.locals = none := I6.free
        rw [cL] at z
        exact z
      obtain ⟨m, hn, _⟩ := I6.loc
      have hn : s6.heap.Ns ce.locals m := hn
      rw [cL] at hn
      exact hRR D s3.heap.objs.size s6 m H5 I7 qq hn (I3.fpOk (Nat.le_refl _) nC)
  exact codeAny_compStart_list loop (T.self X.A 0 _ _ _ st4 loop)
/-- as a value -/
theorem pe_lcN {elt : Expr} {c : Cl} {cs : List Cl} {r : Cr} {rs : List Cr} {scope : Scope} {own : List (Str × Nat)} {pos : Pos} {te : TE} (hc : X.calm = true) (hN : X.N.Nodup) (hi : PI X c.tg c.iter r.wi) (ok : BlkOk X.N X.env.scope scope own) (hr : r.vs = own.map (·.2)) (hus : ∀ i ∈ slotsCr rs, i ∈ r.vs)
    (hg : ∀ (s : Shared) (H : Hp) (C : Addr) (cl : List (Str × Addr)) (fp : List Addr), PG (X.blk s H scope (compEnvC scope cl C X.env) fp) c.tg r.g) (ht : ∀ (s : Shared) (H : Hp) (C : Addr) (cl : List (Str × Addr)) (fp : List Addr), PTs (X.blk s H scope (compEnvC scope cl C X.env) fp) c.ifs r.tt)
    (hcs : ∀ (s : Shared) (H : Hp) (C : Addr) (cl : List (Str × Addr)) (fp : List Addr), ClsOk (X.blk s H scope (compEnvC scope cl C X.env) fp) cs rs)
    (he : ∀ (s : Shared) (H : Hp) (C : Addr) (cl : List (Str × Addr)) (fp : List Addr), PE (X.blk s H scope (compEnvC scope cl C X.env) fp) elt te) (hs : ∀ x, foldedSetIterable c.iter X.env x = pure x) :
    PE X (.ListComp elt (c.c :: cs.map Cl.c) scope pos) (tLcN r rs te) := by
  refine ⟨fun pins s σ H Q I h => ?_⟩
  have e : eval (.ListComp elt (c.c :: cs.map Cl.c) scope pos) X.env = comprehension (.ListComp elt (c.c :: cs.map Cl.c) scope pos) scope X.env (firstIterPos (c.c :: cs.map Cl.c) pos) (newList []) false (eval c.iter X.env) none := by
    first
      | exact eval_ListComp _ _ _ _ _
      | (rw [eval_ListComp]; rfl)
  rw [e]
  refine lcN_core hc hN I hi ok hr hus hg ht hcs he hs h fun D C s' m H' I' q hn f => ⟨m, hn, fun h'' sb => ?_⟩
  obtain ⟨f0, f1, f2, f3, f4, f5⟩ := f
  exact ⟨.ref D, H', I'.turned (t' := s'.toks) (fun b o hb e => (sb.2 b hb).trans e) f0 f1 f3 f4 f5, rfl, q⟩
/-- name = [..] on one line, the name a local -/
theorem ps_setLcN {i : Nat} {y : Str} {py : Pos} {elt : Expr} {c : Cl} {cs : List Cl} {r : Cr} {rs : List Cr} {scope : Scope} {own : List (Str × Nat)} {pos spos : Pos} {te : TE} (hc : X.calm = true) (hN : X.N.Nodup) (hy : X.N[i]? = some y) (hyl : X.env.scope.names.lookup y = some .local)
    (hsw : swapsWith (.ListComp elt (c.c :: cs.map Cl.c) scope pos) (some (.Name y py)) spos.line X.env = pure true) (hi : PI X c.tg c.iter r.wi) (ok : BlkOk X.N X.env.scope scope own) (hr : r.vs = own.map (·.2)) (hus : ∀ i ∈ slotsCr rs, i ∈ r.vs)
    (hg : ∀ (s : Shared) (H : Hp) (C : Addr) (cl : List (Str × Addr)) (fp : List Addr), PG (X.blk s H scope (compEnvC scope cl C X.env) fp) c.tg r.g) (ht : ∀ (s : Shared) (H : Hp) (C : Addr) (cl : List (Str × Addr)) (fp : List Addr), PTs (X.blk s H scope (compEnvC scope cl C X.env) fp) c.ifs r.tt)
    (hcs : ∀ (s : Shared) (H : Hp) (C : Addr) (cl : List (Str × Addr)) (fp : List Addr), ClsOk (X.blk s H scope (compEnvC scope cl C X.env) fp) cs rs)
    (he : ∀ (s : Shared) (H : Hp) (C : Addr) (cl : List (Str × Addr)) (fp : List Addr), PE (X.blk s H scope (compEnvC scope cl C X.env) fp) elt te) (hs : ∀ x, foldedSetIterable c.iter X.env x = pure x) :
    PS X (.Assign [.Name y py] (.ListComp elt (c.c :: cs.map Cl.c) scope pos) spos) (tAsg (tLcN r rs te) (gName i)) := by
  refine ⟨fun pins s σ H D I h => ?_⟩
  rw [exec_Assign_Name_used _ _ _ _ hsw]
  refine wpAny_bind (wpAny_standAt (wpAny_bind ?_))
  show wpAny _ X.A (do let _ ← comprehension (.ListComp elt (c.c :: cs.map Cl.c) scope pos) scope X.env (firstIterPos (c.c :: cs.map Cl.c) pos) (newList []) false (eval c.iter X.env) (some (assign (.Name y py) X.env))) _ _ s
  have h : tLcN r rs te σ H (fun x H1 => gName i x σ H1 D.nx) := h
  refine wpAny_bind (thn (lcN_core (Qf := fun _ s' => SP X pins D .next s') hc hN I hi ok hr hus hg ht hcs he hs h fun L C s' m H' I' q hn f => ?_) fun _ s' hq => wpAny_pure (wpAny_pure hq))
  show wpAny _ _ (assign (.Name y py) X.env (.ref L)) _ _ _
  refine wpAny_assign_Name (store_ok2 (v := V.ref L) I' hN hy (.inl hyl) rfl (fun s2 I2 ⟨a, sb, ha⟩ => ?_) (.inr hyl))
  obtain ⟨f0, f1, f2, f3, f4, f5⟩ := f
  have haC : C ≠ a := by
    rcases ha with z | z
    · rw [z]; exact f1
    · exact fun e => f4 y a z e.symm
  refine ⟨m, hn.sameBut sb haC, fun h3 sb3 => ?_⟩
  exact ⟨_, H', I2.turned (t' := s2.toks) (fun b o hb e => (sb3.2 b hb).trans e) f0 f1 f3 f4 f5, q⟩
end
end Fb

set_option Elab.async false
set_option linter.all false
set_option maxRecDepth 100000
/-! values, the small language and its evaluator: no program in sight -/
namespace Fb
open PySem

/-- a value: data that never changes, the n-th object of the store, or the script -/
inductive D where
  | d (p : PyData)
  | ref (n : Nat)
  | scr (ns : List Int)
/-- an object of the store -/
inductive Ob where
  | lst (xs : List D)
abbrev Sto := List Ob
/-- how a run ends -/
inductive Out (α : Type) where
  | ok (a : α) (s : Sto)
  | exc (c : String) (p : PyData) (s : Sto)
  | bad
def M (α : Type) : Type := Sto → Out α
namespace M
def pure {α : Type} (a : α) : M α := fun s => .ok a s
def bind {α β : Type} (m : M α) (f : α → M β) : M β := fun s => match m s with
  | .ok a s' => f a s'
  | .exc c p s' => .exc c p s'
  | .bad => .bad
def bad {α : Type} : M α := fun _ => .bad
def lift {α : Type} : Option α → M α
  | some a => M.pure a
  | none => M.bad
/-- no exception may leave -/
def calm {α : Type} (m : M α) : M α := fun s => match m s with
  | .ok a s' => .ok a s'
  | _ => .bad
end M
instance : Monad M where
  pure := M.pure
  bind := M.bind
theorem M.pure_eq {α : Type} (a : α) : (Pure.pure a : M α) = M.pure a := rfl
theorem M.bind_eq {α β : Type} (m : M α) (f : α → M β) : (m >>= f) = M.bind m f := rfl
@[simp] theorem M.pure_bind {α β : Type} (a : α) (f : α → M β) : M.bind (M.pure a) f = f a := rfl
@[simp] theorem M.bad_bind {α β : Type} (f : α → M β) : M.bind (M.bad : M α) f = M.bad := rfl
@[simp] theorem M.bind_pure {α : Type} (m : M α) : M.bind m M.pure = m := by
  funext s; unfold M.bind; cases m s <;> rfl
@[simp] theorem M.bind_bind {α β γ : Type} (m : M α) (f : α → M β) (g : β → M γ) : M.bind (M.bind m f) g = M.bind m (fun a => M.bind (f a) g) := by
  funext s; unfold M.bind; cases m s <;> rfl
@[simp] theorem M.lift_some {α : Type} (a : α) : M.lift (some a) = M.pure a := rfl
@[simp] theorem M.lift_none {α : Type} : M.lift (none : Option α) = M.bad := rfl
@[simp] theorem M.calm_pure {α : Type} (a : α) : M.calm (M.pure a) = M.pure a := rfl

/-- a name's place: nothing, a value, a list of the frame's own that grows -/
inductive Sl where
  | un
  | v (x : D)
  | own (xs : List PyData)
abbrev Env := List Sl

/-! ### operations on values -/
abbrev int (i : Int) : D := .d (.int i)
abbrev bl (b : Bool) : D := .d (.bool b)
abbrev tup (xs : List PyData) : D := .d (.tuple xs)
abbrev lst (xs : List PyData) : D := .d (.list xs)
abbrev non : D := .d .none
inductive Bo | add | sub | mul | fdiv | mod | pow
  deriving DecidableEq
inductive Cm | eq | ne | lt | le | gt | ge | is | isnot | in_ | notin
  deriving DecidableEq
def fits64 (i : Int) : Bool := decide (-(2 ^ 64) < i) && decide (i < 2 ^ 64)
def fitsLine (n : Nat) : Bool := decide (n ≤ 16777216)
def Bo.run : Bo → PyData → PyData → Option PyData
  | .add, .int i, .int j => some (.int (i + j))
  | .add, .str x, .str y => if fitsLine (x.length + y.length) then some (.str (x ++ y)) else none
  | .add, .tuple xs, .tuple ys => if fitsLine (xs.length + ys.length) then some (.tuple (xs ++ ys)) else none
  | .add, .list xs, .list ys => if fitsLine (xs.length + ys.length) then some (.list (xs ++ ys)) else none
  | .sub, .int i, .int j => some (.int (i - j))
  | .mul, .int i, .int j => if fits64 i || fits64 j then some (.int (i * j)) else none
  | .mul, .tuple xs, .int k => if 0 ≤ k ∧ k ≤ 1000 ∧ xs.length ≤ 1000 then some (.tuple (List.replicate k.toNat xs).flatten) else none
  | .mul, .list xs, .int k => if 0 ≤ k ∧ k ≤ 1000 ∧ xs.length ≤ 1000 then some (.list (List.replicate k.toNat xs).flatten) else none
  | .fdiv, .int i, .int j => if 0 < j ∧ j < 1073741824 then some (.int (i / j)) else none
  | .mod, .int i, .int j => if 0 < j then some (.int (i % j)) else none
  | .pow, .int i, .int j => if 0 ≤ j ∧ j ≤ 1000000 ∧ i.natAbs < 2 ^ 64 then some (.int (i ^ j.toNat)) else none
  | _, _, _ => none
def eqP : PyData → PyData → Option Bool
  | .int i, .int j => some (decide (i = j))
  | .bool i, .bool j => some (decide (i = j))
  | .str i, .str j => some (decide (i = j))
  | a, b => if SeqAt.shaped a && SeqAt.shaped b then some (PyData.eqv a b) else none
/-- they can be compared, place by place -/
def alikeB (a b : PyData) : Bool := PySem.W.alike a b && (!(match a with | .none => true | _ => false) && decide (a.depth ≤ 64))
def alikeAllB (xs : List PyData) : Bool := SeqAt.shaped (.list xs) && xs.all (fun x => xs.all (fun y => PySem.W.alike x y)) && (xs.all (fun x => !(match x with | .none => true | _ => false)) && decide (PyData.depthAll xs ≤ 60))
def Cm.run : Cm → PyData → PyData → Option Bool
  | .eq, a, b => eqP a b
  | .ne, a, b => (eqP a b).map not
  | .lt, .int i, .int j => some (decide (i < j))
  | .le, .int i, .int j => some (decide (i ≤ j))
  | .gt, .int i, .int j => some (decide (j < i))
  | .ge, .int i, .int j => some (decide (j ≤ i))
  | .lt, a, b => if alikeB a b then some (PySem.W.dataLt a b) else none
  | .is, a, .none => some (match a with | .none => true | _ => false)
  | .isnot, a, .none => some (match a with | .none => false | _ => true)
  | .is, .bool a, .bool b => some (decide (a = b))
  | .isnot, .bool a, .bool b => some (!decide (a = b))
  | .in_, a, .list xs => if SeqAt.shaped a && SeqAt.shaped (.list xs) then some (xs.any fun z => PyData.eqv z a) else none
  | .notin, a, .list xs => if SeqAt.shaped a && SeqAt.shaped (.list xs) then some (!xs.any fun z => PyData.eqv z a) else none
  | .in_, a, .tuple xs => if SeqAt.shaped a && SeqAt.shaped (.tuple xs) then some (xs.any fun z => PyData.eqv z a) else none
  | .notin, a, .tuple xs => if SeqAt.shaped a && SeqAt.shaped (.tuple xs) then some (!xs.any fun z => PyData.eqv z a) else none
  | _, _, _ => none
/-- the truth of a value -/
def truth : PyData → Option Bool
  | .none => some false
  | .bool b => some b
  | .int i => some (i != 0)
  | .list xs => some (!xs.isEmpty)
  | .tuple xs => some (!xs.isEmpty)
  | _ => none
def ixP : PyData → Int → Option PyData
  | .tuple xs, i => L2.atI xs i
  | .list xs, i => L2.atI xs i
  | _, _ => none
def revP : PyData → Option PyData
  | .tuple xs => some (.tuple xs.reverse)
  | .list xs => some (.list xs.reverse)
  | _ => none
def cutP : PyData → Option Int → Option Int → Option PyData
  | .tuple xs, lo, hi => some (.tuple ((xs.drop (HT.sIx xs.length 0 lo)).take (HT.sIx xs.length xs.length hi - HT.sIx xs.length 0 lo)))
  | .list xs, lo, hi => some (.list ((xs.drop (HT.sIx xs.length 0 lo)).take (HT.sIx xs.length xs.length hi - HT.sIx xs.length 0 lo)))
  | _, _, _ => none
def intsOf : List PyData → Option (List Int)
  | [] => some []
  | .int i :: r => (intsOf r).map (i :: ·)
  | _ :: _ => none
def boolsOf : List PyData → Option (List Bool)
  | [] => some []
  | .bool i :: r => (boolsOf r).map (i :: ·)
  | _ :: _ => none
inductive Bl | len | tuple | list | sum | all | any | abs | max2 | min2 | maxL | minL | repr | int
  deriving DecidableEq
def maxI (x : Int) (xs : List Int) : Int := xs.foldl max x
def minI (x : Int) (xs : List Int) : Int := xs.foldl min x
def Bl.run : Bl → List PyData → Option PyData
  | .len, [.tuple xs] => some (.int xs.length)
  | .len, [.list xs] => some (.int xs.length)
  | .len, [.str x] => if fitsLine x.length then some (.int x.length) else none
  | .tuple, [.tuple xs] => some (.tuple xs)
  | .tuple, [.list xs] => some (.tuple xs)
  | .list, [.tuple xs] => some (.list xs)
  | .list, [.list xs] => some (.list xs)
  | .sum, [.list xs] => (intsOf xs).map fun ns => .int ns.sum
  | .sum, [.tuple xs] => (intsOf xs).map fun ns => .int ns.sum
  | .all, [.list xs] => (boolsOf xs).map fun bs => .bool (bs.all id)
  | .any, [.list xs] => (boolsOf xs).map fun bs => .bool (bs.any id)
  | .abs, [.int i] => some (.int (if i < 0 then -i else i))
  | .max2, [.int i, .int j] => some (.int (if j > i then j else i))
  | .min2, [.int i, .int j] => some (.int (if j < i then j else i))
  | .maxL, [.list xs] => match intsOf xs with
    | some (n :: ns) => some (.int (maxI n ns))
    | some [] => none
    | none => match xs with
      | x :: r => if alikeAllB (x :: r) then some (PySem.W.maxD x r) else none
      | [] => none
  | .minL, [.list xs] => match intsOf xs with
    | some (n :: ns) => some (.int (minI n ns))
    | some [] => none
    | none => match xs with
      | x :: r => if alikeAllB (x :: r) then some (PySem.W.minD x r) else none
      | [] => none
  | .repr, [p] => if p.showable && !p.hasDict && fitsLine p.shown.length && SeqAt.shaped p then some (.str p.shown) else none
  | .int, [.int i] => some (.int i)
  | .int, [.bool b] => some (.int (if b then 1 else 0))
  | _, _ => none
/-- the built-in classes that isinstance is asked of -/
inductive Ty | int | bool | str | tuple | list
  deriving DecidableEq
def Ty.is : Ty → PyData → Bool
  | .int, .int _ => true
  | .int, .bool _ => true
  | .bool, .bool _ => true
  | .str, .str _ => true
  | .tuple, .tuple _ => true
  | .list, .list _ => true
  | _, _ => false

/-! ### the language -/
mutual
inductive T where
  | nm (i : Nat)
  | tp (ts : Ts)
inductive Ts where
  | nil
  | cons (t : T) (ts : Ts)
end
mutual
inductive E where
  | var (i : Nat)
  | cst (p : PyData)
  | glo (x : String) (p : PyData)
  | tup (es : Es)
  | lst (es : Es)
  | nref (es : Es)
  | bin (o : Bo) (a b : E)
  | neg (a : E)
  | not (a : E)
  | cmp (c : Cm) (a b : E)
  | chn (c c' : Cm) (a b d : E)
  | and (a b : E)
  | or (a b : E)
  | ife (t a b : E)
  | ix (a i : E)
  | cut (a : E) (lo hi : Oe)
  | rev (a : E)
  | lrg (a b : E)
  | call (f : String) (g : List D → M D) (es : Es)
  | blt (f : Bl) (es : Es)
  | isi (a : E) (t : Ty)
  | lc (own : List Nat) (g : G)
  | oix (i : Nat) (e : E)
  | oin (c : Cm) (e : E) (i : Nat)
  | olen (i : Nat)
inductive Es where
  | nil
  | cons (e : E) (es : Es)
inductive Oe where
  | no
  | yes (e : E)
/-- what a loop walks -/
inductive It where
  | seq (e : E)
  | rng1 (a : E)
  | rng2 (a b : E)
  | rng3 (a b c : E)
  | zip (a b : E)
  | enum (a : E)
/-- a comprehension's clauses, then its item -/
inductive G where
  | fin (e : E)
  | gen (vs : List Nat) (it : It) (t : T) (c : Oe) (g : G)
end
mutual
inductive S where
  | set (t : T) (e : E)
  | par (is : List Nat) (es : Es)
  | parO (is : List Nat) (es : Es) (os : List Bool)
  | own (i : Nat) (e : E)
  | frz (i : Nat)
  | app (i : Nat) (e : E)
  | oset (i : Nat) (k e : E)
  | rset (o i e : E)
  | expr (e : E)
  | ret (e : E)
  | retN
  | ifs (t : E) (a b : Ss)
  | for_ (it : It) (t : T) (b : Ss)
  | while_ (t : E) (b : Ss)
  | raise (c : String) (m : String)
inductive Ss where
  | nil
  | cons (s : S) (ss : Ss)
end
structure Fn where
  ps : Nat
  ns : Nat
  body : Ss

/-! ### the evaluator -/
abbrev Cons := String → Option PyData
def Sl.get : Sl → Option D
  | .v x => some x
  | _ => none
def D.dat : D → Option PyData
  | .d p => some p
  | _ => none
def datas : List D → Option (List PyData)
  | [] => some []
  | .d p :: r => (datas r).map (p :: ·)
  | _ :: _ => none
/-- d's data, or nothing goes on -/
def need {α : Type} (x : D) (k : PyData → M α) : M α := match x with
  | .d p => k p
  | _ => M.bad
@[simp] theorem need_d {α : Type} (p : PyData) (k : PyData → M α) : need (.d p) k = k p := rfl
def ixD (x : D) (i : PyData) : M D := match i with
  | .int k => (match x with
    | .d p => M.lift ((ixP p k).map D.d)
    | .ref n => fun s => match s[n]? with
      | some (.lst xs) => (match L2.atI xs k with
        | some v => .ok v s
        | none => .bad)
      | none => .bad
    | .scr ns => M.lift ((L2.atI ns k).map int))
  | _ => M.bad
/-- a built-in function -/
def Bl.runD (f : Bl) (xs : List D) : M D := match f, xs with
  | .len, [.scr ns] => M.pure (D.d (.int ns.length))
  | f, xs => M.lift (((datas xs).bind f.run).map D.d)
def partOf : PyData → Option (Option Int)
  | .int i => some (some i)
  | _ => none
def Ts.len : Ts → Nat
  | .nil => 0
  | .cons _ ts => ts.len + 1
mutual
def T.bind : T → D → Env → Option Env
  | .nm i, x, env => if i < env.length then some (env.set i (.v x)) else none
  | .tp ts, .d (.tuple ps), env => ts.bind (ps.map D.d) env
  | .tp _, _, _ => none
def Ts.bind : Ts → List D → Env → Option Env
  | .nil, [], env => some env
  | .cons t ts, x :: xs, env => (t.bind x env).bind fun env' => ts.bind xs env'
  | _, _, _ => none
end
def wipeE (env : Env) : List Nat → Env
  | [] => env
  | v :: vs => (wipeE env vs).set v .un
def rangeL (lo : Int) (n : Nat) : List D := (List.range n).map fun (k : Nat) => int (lo + (k : Int))
def rng62 (i : Int) : Bool := decide (-(2 ^ 62) ≤ i) && decide (i < 2 ^ 62)
def rangeM (i j : Int) : M (List D) := if rng62 i && rng62 j && fitsLine (j - i).toNat then M.pure (rangeL i (j - i).toNat) else M.bad
def rangeP (lo : Int) (n : Nat) : List PyData := (List.range n).map fun (k : Nat) => .int (lo + (k : Int))
def lrgM (i j : Int) : M D := if rng62 i && rng62 j && fitsLine (j - i).toNat then M.pure (lst (rangeP i (j - i).toNat)) else M.bad
def range3L (i k : Int) (n : Nat) : List D := (List.range n).map fun (m : Nat) => int (i + (m : Int) * k)
def range3M (i j k : Int) : M (List D) := if decide (k ≠ 0) && (decide (k.natAbs < 1073741824) && (Builtin.Range.small i j k && (decide (Builtin.Range.rangeSize i j k = ((Builtin.Range.rangeSize i j k).toNat : Int)) && fitsLine (Builtin.Range.rangeSize i j k).toNat))) then M.pure (range3L i k (Builtin.Range.rangeSize i j k).toNat) else M.bad
def zipL : List PyData → List PyData → List D
  | x :: xs, y :: ys => tup [x, y] :: zipL xs ys
  | _, _ => []
def enumL : Nat → List PyData → List D
  | _, [] => []
  | k, x :: xs => tup [.int k, x] :: enumL (k + 1) xs
def seqP : PyData → Option (List PyData)
  | .tuple xs => some xs
  | .list xs => some xs
  | _ => none
/-- turn by turn, the lists laid one behind the other -/
def flatM (f : D → M (List PyData)) : List D → M (List PyData)
  | [] => M.pure []
  | x :: xs => M.bind (f x) fun ys => M.bind (flatM f xs) fun zs => M.pure (ys ++ zs)
mutual
def E.ev : E → Env → M D
  | .var i, env => M.lift ((env[i]?).bind Sl.get)
  | .cst p, _ => M.pure (.d p)
  | .glo _ p, _ => M.pure (.d p)
  | .tup es, env => M.bind (es.ev env) fun xs => M.lift ((datas xs).map tup)
  | .lst es, env => M.bind (es.ev env) fun xs => M.lift ((datas xs).map lst)
  | .nref es, env => M.bind (es.ev env) fun xs => fun s => .ok (.ref s.length) (s ++ [.lst xs])
  | .bin o a b, env => M.bind (a.ev env) fun x => M.bind (b.ev env) fun y => need x fun p => need y fun q => M.lift ((o.run p q).map D.d)
  | .neg a, env => M.bind (a.ev env) fun x => need x fun p => match p with
    | .int i => M.pure (int (-i))
    | _ => M.bad
  | .not a, env => M.bind (a.ev env) fun x => need x fun p => match p with
    | .bool b => M.pure (bl (!b))
    | _ => M.bad
  | .cmp c a b, env => M.bind (a.ev env) fun x => M.bind (b.ev env) fun y => need x fun p => need y fun q => M.lift ((c.run p q).map bl)
  | .chn c c' a b d, env => M.bind (a.ev env) fun x => M.bind (b.ev env) fun y => need x fun p => need y fun q => M.bind (M.lift (c.run p q)) fun k =>
      if k = true then M.bind (d.ev env) fun z => need z fun r => M.lift ((c'.run q r).map bl) else M.pure (bl false)
  | .and a b, env => M.bind (a.ev env) fun x => need x fun p => match p with
    | .bool true => b.ev env
    | .bool false => M.pure (bl false)
    | _ => M.bad
  | .or a b, env => M.bind (a.ev env) fun x => need x fun p => match p with
    | .bool true => M.pure (bl true)
    | .bool false => b.ev env
    | _ => M.bad
  | .ife t a b, env => M.bind (t.tst env) fun k => if k = true then a.ev env else b.ev env
  | .ix a i, env => M.bind (a.ev env) fun x => M.bind (i.ev env) fun y => need y fun q => ixD x q
  | .cut a lo hi, env => M.bind (a.ev env) fun x => M.bind (lo.prt env) fun l => M.bind (hi.prt env) fun h => need x fun p => M.lift ((cutP p l h).map D.d)
  | .rev a, env => M.bind (a.ev env) fun x => need x fun p => M.lift ((revP p).map D.d)
  | .lrg a b, env => M.bind (a.ev env) fun x => M.bind (b.ev env) fun y => need x fun p => need y fun q => match p, q with
    | .int i, .int j => lrgM i j
    | _, _ => M.bad
  | .call _ g es, env => M.bind (es.ev env) fun xs => g xs
  | .blt f es, env => M.bind (es.ev env) fun xs => f.runD xs
  | .isi a t, env => M.bind (a.ev env) fun x => need x fun p => M.pure (bl (t.is p))
  | .lc _ g, env => M.calm (M.bind (g.ev env) fun ps => if fitsLine ps.length then M.pure (lst ps) else M.bad)
  | .oix i e, env => match env[i]? with
    | some (.own xs) => M.bind (e.ev env) fun x => need x fun q => match q with
      | .int k => M.lift ((L2.atI xs k).map D.d)
      | _ => M.bad
    | _ => M.bad
  | .oin c e i, env => match env[i]? with
    | some (.own xs) => M.bind (e.ev env) fun x => need x fun p => M.lift ((c.run p (.list xs)).map bl)
    | _ => M.bad
  | .olen i, env => match env[i]? with
    | some (.own xs) => M.pure (int xs.length)
    | _ => M.bad
/-- as a test -/
def E.tst : E → Env → M Bool
  | .not a, env => M.bind (a.tst env) fun k => M.pure (!k)
  | .and a b, env => M.bind (a.tst env) fun k => if k = true then b.tst env else M.pure false
  | .or a b, env => M.bind (a.tst env) fun k => if k = true then M.pure true else b.tst env
  | .cmp c a b, env => M.bind (a.ev env) fun x => M.bind (b.ev env) fun y => need x fun p => need y fun q => M.lift (c.run p q)
  | .chn c c' a b d, env => M.bind (a.ev env) fun x => M.bind (b.ev env) fun y => need x fun p => need y fun q => M.bind (M.lift (c.run p q)) fun k =>
      if k = true then M.bind (d.ev env) fun z => need z fun r => M.lift (c'.run q r) else M.pure false
  | .call _ g es, env => M.bind (M.bind (es.ev env) fun xs => g xs) fun x => need x fun p => M.lift (truth p)
  | .blt f es, env => M.bind (M.bind (es.ev env) fun xs => f.runD xs) fun x => need x fun p => M.lift (truth p)
  | .isi a t, env => M.bind (a.ev env) fun x => need x fun p => M.pure (t.is p)
  | .var i, env => M.bind (M.lift ((env[i]?).bind Sl.get)) fun x => need x fun p => M.lift (truth p)
  | .ix a i, env => M.bind (M.bind (a.ev env) fun x => M.bind (i.ev env) fun y => need y fun q => ixD x q) fun x => need x fun p => M.lift (truth p)
  | .oin c e i, env => match env[i]? with
    | some (.own xs) => M.bind (e.ev env) fun x => need x fun p => M.lift (c.run p (.list xs))
    | _ => M.bad
  | _, _ => M.bad
def Es.ev : Es → Env → M (List D)
  | .nil, _ => M.pure []
  | .cons e es, env => M.bind (e.ev env) fun x => M.bind (es.ev env) fun xs => M.pure (x :: xs)
def Oe.prt : Oe → Env → M (Option Int)
  | .no, _ => M.pure none
  | .yes e, env => M.bind (e.ev env) fun x => need x fun p => M.lift (partOf p)
/-- a clause's test -/
def Oe.ok : Oe → Env → M Bool
  | .no, _ => M.pure true
  | .yes e, env => e.tst env
def It.ev : It → Env → M (List D)
  | .seq e, env => M.bind (e.ev env) fun x => need x fun p => M.lift ((seqP p).map fun ps => ps.map D.d)
  | .rng1 a, env => M.bind (a.ev env) fun x => need x fun p => match p with
    | .int j => rangeM 0 j
    | _ => M.bad
  | .rng2 a b, env => M.bind (a.ev env) fun x => M.bind (b.ev env) fun y => need x fun p => need y fun q => match p, q with
    | .int i, .int j => rangeM i j
    | _, _ => M.bad
  | .rng3 a b c, env => M.bind (a.ev env) fun x => M.bind (b.ev env) fun y => M.bind (c.ev env) fun z => need x fun p => need y fun q => need z fun r => match p, q, r with
    | .int i, .int j, .int k => range3M i j k
    | _, _, _ => M.bad
  | .zip a b, env => M.bind (a.ev env) fun x => M.bind (b.ev env) fun y => need x fun p => need y fun q => match p, q with
    | .tuple xs, .tuple ys => M.pure (zipL xs ys)
    | .list xs, .list ys => M.pure (zipL xs ys)
    | _, _ => M.bad
  | .enum a, env => M.bind (a.ev env) fun x => need x fun p => match p with
    | .list ps => M.pure (enumL 0 ps)
    | .tuple ps => M.pure (enumL 0 ps)
    | _ => M.bad
def G.ev : G → Env → M (List PyData)
  | .fin e, env => M.bind (e.ev env) fun x => need x fun p => M.pure [p]
  | .gen vs it t c g, env => M.bind (it.ev env) fun xs => flatM (fun x => M.bind (M.lift (t.bind x (wipeE env vs))) fun env' => M.bind (c.ok env') fun k =>
      if k = true then g.ev env' else M.pure []) xs
end

/-- how a statement ends -/
inductive Fl where
  | nx (env : Env)
  | ret (x : D)
def forL (f : D → Env → M Fl) : List D → Env → M Fl
  | [], env => M.pure (.nx env)
  | x :: xs, env => M.bind (f x env) fun r => match r with
    | .nx env' => forL f xs env'
    | .ret v => M.pure (.ret v)
def whileL (c : Env → M Bool) (f : Env → M Fl) : Nat → Env → M Fl
  | 0, _ => M.bad
  | n + 1, env => M.bind (c env) fun k => if k = true then M.bind (f env) fun r => match r with
      | .nx env' => whileL c f n env'
      | .ret v => M.pure (.ret v)
    else M.pure (.nx env)
def setMany : List Nat → List D → Env → Option Env
  | [], [], env => some env
  | i :: is, x :: xs, env => if i < env.length then setMany is xs (env.set i (.v x)) else none
  | _, _, _ => none
/-- what is stored: a value, or a list of the frame's own -/
def slotOf : Bool → D → Option Sl
  | false, x => some (.v x)
  | true, .d (.list ps) => some (.own ps)
  | true, _ => none
def slotsOf : List Bool → List D → Option (List Sl)
  | [], [] => some []
  | o :: os, x :: xs => (slotOf o x).bind fun s => (slotsOf os xs).map (s :: ·)
  | _, _ => none
def putMany : List Nat → List Sl → Env → Option Env
  | [], [], env => some env
  | i :: is, x :: xs, env => if i < env.length then putMany is xs (env.set i x) else none
  | _, _, _ => none
def asInt : PyData → Option Int
  | .int i => some i
  | _ => none
def rsetM (o : D) (i : PyData) (v : D) : M Unit := match o, i with
  | .ref n, .int k => fun s => match s[n]? with
    | some (.lst xs) => (match L2.ixN xs.length k with
      | some j => .ok () (s.set n (.lst (xs.set j v)))
      | none => .bad)
    | none => .bad
  | _, _ => M.bad
mutual
def S.ev : S → Env → M Fl
  | .set t e, env => M.bind (e.ev env) fun x => M.bind (M.lift (t.bind x env)) fun env' => M.pure (.nx env')
  | .par is es, env => M.bind (es.ev env) fun xs => M.bind (M.lift (setMany is xs env)) fun env' => M.pure (.nx env')
  | .parO is es os, env => M.bind (es.ev env) fun xs => M.bind (M.lift (slotsOf os xs)) fun ss => M.bind (M.lift (putMany is ss env)) fun env' => M.pure (.nx env')
  | .own i e, env => M.bind (e.ev env) fun x => need x fun p => match p with
    | .list xs => if i < env.length then M.pure (.nx (env.set i (.own xs))) else M.bad
    | _ => M.bad
  | .frz i, env => match env[i]? with
    | some (.own xs) => M.pure (.nx (env.set i (.v (lst xs))))
    | _ => M.bad
  | .oset i k e, env => match env[i]? with
    | some (.own xs) => M.bind (e.ev env) fun x => M.bind (k.ev env) fun y => need x fun p => need y fun q => match q with
      | .int n => (match L2.ixN xs.length n with
        | some j => M.pure (.nx (env.set i (.own (xs.set j p))))
        | none => M.bad)
      | _ => M.bad
    | _ => M.bad
  | .app i e, env => match env[i]? with
    | some (.own xs) => M.bind (e.ev env) fun x => need x fun p => if xs.length < 16777216 then M.pure (.nx (env.set i (.own (xs ++ [p])))) else M.bad
    | _ => M.bad
  | .rset o i e, env => M.bind (e.ev env) fun x => M.bind (o.ev env) fun y => M.bind (i.ev env) fun z => need z fun k => M.bind (rsetM y k x) fun _ => M.pure (.nx env)
  | .expr e, env => M.bind (e.ev env) fun _ => M.pure (.nx env)
  | .ret e, env => M.bind (e.ev env) fun x => M.pure (.ret x)
  | .retN, _ => M.pure (.ret non)
  | .ifs t a b, env => M.bind (t.tst env) fun k => if k = true then a.ev env else b.ev env
  | .for_ it t b, env => M.bind (it.ev env) fun xs => forL (fun x env => M.bind (M.lift (t.bind x env)) fun env' => b.ev env') xs env
  | .while_ t b, env => whileL (fun env => t.tst env) (fun env => b.ev env) 100000 env
  | .raise c m, _ => fun s => .exc c (.str m) s
def Ss.ev : Ss → Env → M Fl
  | .nil, env => M.pure (.nx env)
  | .cons s ss, env => M.bind (s.ev env) fun r => match r with
    | .nx env' => ss.ev env'
    | .ret v => M.pure (.ret v)
end
def startE (ns : Nat) (xs : List D) : Env := xs.map Sl.v ++ List.replicate (ns - xs.length) Sl.un
def Fn.run (f : Fn) (xs : List D) : M D :=
  if xs.length = f.ps ∧ f.ps ≤ f.ns then M.bind (f.body.ev (startE f.ns xs)) fun r => match r with
    | .nx _ => M.pure non
    | .ret v => M.pure v
  else M.bad
end Fb

set_option Elab.async false
set_option linter.all false
set_option maxRecDepth 100000
/-! how values and stores stand in the hand layer's heaps -/
namespace Fb
open PySem PySem.Spec PyProof.Rows L2
open Classical

/-- where the store's objects stand; which addresses no datum may lean on -/
structure Wo where
  μ : List Addr
  B : Addr → Prop
noncomputable def hide (B : Addr → Prop) (H : Hp) : Hp := fun a => if B a then none else H a
theorem hide_some {B : Addr → Prop} {H : Hp} {a : Addr} {o : HO} : hide B H a = some o ↔ ¬ B a ∧ H a = some o := by
  unfold hide
  by_cases h : B a
  · simp [h]
  · simp [h]
theorem hide_sub {B : Addr → Prop} {H : Hp} : Same (hide B H) H := fun _ _ e => (hide_some.mp e).2

theorem seqL_mono {K : PySem.W.Frag} {H H' : Hp} {a : Addr} {xs : List V} (e : Same H H') (h : SqL K H a xs) : SqL K H' a xs := e.seq h
theorem seqT_mono {K : PySem.W.Frag} {H H' : Hp} {a : Addr} {xs : List V} (e : Same H H') (h : SqT K H a xs) : SqT K H' a xs := by
  rcases h with (h | ⟨o, h⟩) | h
  · exact .inl (.inl (e _ _ h))
  · exact .inl (.inr ⟨o, e _ _ h⟩)
  · exact .inr h
mutual
/-- a datum stands: its lists are all in H itself -/
inductive Dq (K : PySem.W.Frag) (H : Hp) : V → PyData → Prop
  | non : Dq K H .non .none
  | bl (b : Bool) : Dq K H (.bl b) (.bool b)
  | int (i : Int) : Dq K H (.int i) (.int i)
  | str (x : Str) : Dq K H (.str x) (.str x)
  | lst {a : Addr} {xs : List V} {ds : List PyData} : H a = some (.lst xs) → DqAll K H xs ds → Dq K H (.ref a) (.list ds)
  | tup {a : Addr} {xs : List V} {ds : List PyData} : SqT K H a xs → DqAll K H xs ds → Dq K H (.ref a) (.tuple ds)
inductive DqAll (K : PySem.W.Frag) (H : Hp) : List V → List PyData → Prop
  | nil : DqAll K H [] []
  | cons {v : V} {vs : List V} {d : PyData} {ds : List PyData} : Dq K H v d → DqAll K H vs ds → DqAll K H (v :: vs) (d :: ds)
end
mutual
theorem Dq.dp {K : PySem.W.Frag} {H H' : Hp} (e : Same H H') : ∀ {p : PyData} {v : V}, Dq K H v p → Dp K H' v p
  | .none, _, h => by cases h; exact .non
  | .bool b, _, h => by cases h; exact .bl b
  | .int i, _, h => by cases h; exact .int i
  | .str x, _, h => by cases h; exact .str x
  | .list ds, _, h => by
    cases h with
    | lst h1 h2 => exact .lst (.inl (.inl (e _ _ h1))) (DqAll.dp e h2)
  | .tuple ds, _, h => by
    cases h with
    | tup h1 h2 => exact .tup (seqT_mono e h1) (DqAll.dp e h2)
  | .dict _, _, h => by cases h
theorem DqAll.dp {K : PySem.W.Frag} {H H' : Hp} (e : Same H H') : ∀ {ds : List PyData} {vs : List V}, DqAll K H vs ds → DpAll K H' vs ds
  | [], _, h => by cases h; exact .nil
  | d :: ds, _, h => by
    cases h with
    | cons h1 h2 => exact .cons (Dq.dp e h1) (DqAll.dp e h2)
end
mutual
theorem dp_mono {K : PySem.W.Frag} {H H' : Hp} (e : Same H H') : ∀ {p : PyData} {v : V}, Dq K H v p → Dq K H' v p
  | .none, _, h => by cases h; exact .non
  | .bool b, _, h => by cases h; exact .bl b
  | .int i, _, h => by cases h; exact .int i
  | .str x, _, h => by cases h; exact .str x
  | .list ds, _, h => by
    cases h with
    | lst h1 h2 => exact .lst (e _ _ h1) (dpAll_mono e h2)
  | .tuple ds, _, h => by
    cases h with
    | tup h1 h2 => exact .tup (seqT_mono e h1) (dpAll_mono e h2)
  | .dict _, _, h => by cases h
theorem dpAll_mono {K : PySem.W.Frag} {H H' : Hp} (e : Same H H') : ∀ {ds : List PyData} {vs : List V}, DqAll K H vs ds → DqAll K H' vs ds
  | [], _, h => by cases h; exact .nil
  | d :: ds, _, h => by
    cases h with
    | cons h1 h2 => exact .cons (dp_mono e h1) (dpAll_mono e h2)
end
theorem DqAll.length {K : PySem.W.Frag} {H : Hp} : ∀ {ds : List PyData} {vs : List V}, DqAll K H vs ds → vs.length = ds.length
  | _, _, .nil => rfl
  | _, _, .cons _ t => congrArg (· + 1) (DqAll.length t)
theorem DqAll.append {K : PySem.W.Frag} {H : Hp} : ∀ {ds es : List PyData} {vs us : List V}, DqAll K H vs ds → DqAll K H us es → DqAll K H (vs ++ us) (ds ++ es)
  | _, _, _, _, .nil, h => h
  | _, _, _, _, .cons a t, h => .cons a (DqAll.append t h)
theorem DqAll.get {K : PySem.W.Frag} {H : Hp} : ∀ {ds : List PyData} {vs : List V} {i : Nat} {d : PyData}, DqAll K H vs ds → ds[i]? = some d → ∃ v, vs[i]? = some v ∧ Dq K H v d
  | _, _, _, _, .nil, e => by simp at e
  | _, _, 0, _, .cons a _, e => by simp at e; subst e; exact ⟨_, rfl, a⟩
  | _, _, i + 1, d, .cons _ t, e => by
    obtain ⟨v, h1, h2⟩ := DqAll.get (i := i) (d := d) t (by simpa using e)
    exact ⟨v, by simpa using h1, h2⟩
theorem DqAll.reverse {K : PySem.W.Frag} {H : Hp} : ∀ {ds : List PyData} {vs : List V}, DqAll K H vs ds → DqAll K H vs.reverse ds.reverse
  | _, _, .nil => .nil
  | _, _, .cons a t => by
    rw [List.reverse_cons, List.reverse_cons]
    exact DqAll.append (DqAll.reverse t) (.cons a .nil)
theorem DqAll.take {K : PySem.W.Frag} {H : Hp} : ∀ {ds : List PyData} {vs : List V} (n : Nat), DqAll K H vs ds → DqAll K H (vs.take n) (ds.take n)
  | _, _, 0, _ => .nil
  | _, _, _ + 1, .nil => .nil
  | _, _, n + 1, .cons a t => .cons a (DqAll.take n t)
theorem DqAll.drop {K : PySem.W.Frag} {H : Hp} : ∀ {ds : List PyData} {vs : List V} (n : Nat), DqAll K H vs ds → DqAll K H (vs.drop n) (ds.drop n)
  | _, _, 0, h => h
  | _, _, _ + 1, .nil => .nil
  | _, _, n + 1, .cons _ t => DqAll.drop n t
theorem DqAll.rep {K : PySem.W.Frag} {H : Hp} {ds : List PyData} {vs : List V} (h : DqAll K H vs ds) : ∀ n : Nat, DqAll K H (List.replicate n vs).flatten (List.replicate n ds).flatten
  | 0 => by simpa using DqAll.nil
  | n + 1 => by
    rw [List.replicate_succ, List.replicate_succ, List.flatten_cons, List.flatten_cons]
    exact DqAll.append h (DqAll.rep h n)
theorem DqAll.ints {K : PySem.W.Frag} {H : Hp} : ∀ {ds : List PyData} {vs : List V} {ns : List Int}, DqAll K H vs ds → intsOf ds = some ns → vs = ns.map V.int
  | _, _, ns, .nil, e => by cases e; rfl
  | d :: ds, _, ns, .cons a t, e => by
    cases d <;> simp [intsOf] at e
    obtain ⟨r, e1, e2⟩ := e
    subst e2
    cases a
    rw [DqAll.ints t e1]
    rfl
theorem DqAll.bools {K : PySem.W.Frag} {H : Hp} : ∀ {ds : List PyData} {vs : List V} {ns : List Bool}, DqAll K H vs ds → boolsOf ds = some ns → vs = ns.map V.bl
  | _, _, ns, .nil, e => by cases e; rfl
  | d :: ds, _, ns, .cons a t, e => by
    cases d <;> simp [boolsOf] at e
    obtain ⟨r, e1, e2⟩ := e
    subst e2
    cases a
    rw [DqAll.bools t e1]
    rfl

section
variable (K : PySem.W.Frag)
/-- how a value stands -/
def Rep (w : Wo) (H : Hp) : D → V → Prop
  | .d p, v => Dq K (hide w.B H) v p
  | .ref n, v => ∃ a, w.μ[n]? = some a ∧ v = .ref a
  | .scr ns, v => ∃ a, v = .ref a ∧ SqL K (hide w.B H) a (ns.map V.int)
def Reps (w : Wo) (H : Hp) : List D → List V → Prop
  | [], [] => True
  | x :: xs, v :: vs => Rep K w H x v ∧ Reps w H xs vs
  | _, _ => False
def ObRep (w : Wo) (H : Hp) (a : Addr) : Ob → Prop
  | .lst xs => ∃ vs, H a = some (.lst vs) ∧ Reps K w H xs vs
/-- the store stands -/
structure Wd (st : Sto) (w : Wo) (H : Hp) : Prop where
  nd : w.μ.Nodup
  len : w.μ.length = st.length
  sub : ∀ a ∈ w.μ, w.B a
  dom : ∀ a, w.B a → H a ≠ none
  obs : ∀ (n : Nat) (o : Ob), st[n]? = some o → ∃ a, w.μ[n]? = some a ∧ ObRep K w H a o
end
/-- what data leans on stays -/
structure HX (w : Wo) (H : Hp) (w' : Wo) (H' : Hp) : Prop where
  pre : w.μ <+: w'.μ
  hid : Same (hide w.B H) (hide w'.B H')
/-- what a run may do -/
structure Ext (w : Wo) (H : Hp) (w' : Wo) (H' : Hp) : Prop where
  mu : ∃ ν, w'.μ = w.μ ++ ν ∧ ∀ a ∈ ν, H a = none
  keep : ∀ a o, H a = some o → a ∉ w.μ → H' a = some o
  dom : ∀ a, H a ≠ none → H' a ≠ none
  up : ∀ a, w.B a → w'.B a
  new : ∀ a, w'.B a → w.B a ∨ H a = none
theorem HX.refl {w : Wo} {H : Hp} : HX w H w H := ⟨List.prefix_rfl, Same.refl _⟩
theorem HX.trans {w w1 w2 : Wo} {H H1 H2 : Hp} (a : HX w H w1 H1) (b : HX w1 H1 w2 H2) : HX w H w2 H2 := ⟨a.pre.trans b.pre, a.hid.trans b.hid⟩
theorem Ext.refl {w : Wo} {H : Hp} : Ext w H w H := ⟨⟨[], by simp, by simp⟩, fun _ _ e _ => e, fun _ h => h, fun _ h => h, fun _ h => .inl h⟩
theorem Ext.trans {w w1 w2 : Wo} {H H1 H2 : Hp} (a : Ext w H w1 H1) (b : Ext w1 H1 w2 H2) : Ext w H w2 H2 := by
  obtain ⟨ν, e1, f1⟩ := a.mu
  obtain ⟨ν2, e2, f2⟩ := b.mu
  have dn : ∀ x, H1 x = none → H x = none := fun x hx => by
    cases q : H x with
    | none => rfl
    | some o => exact absurd hx (a.dom x (by rw [q]; simp))
  refine ⟨⟨ν ++ ν2, by rw [e2, e1, List.append_assoc], fun x hx => ?_⟩, fun x o h hn => ?_, fun x h => b.dom x (a.dom x h), fun x h => b.up x (a.up x h), fun x h => ?_⟩
  · rcases List.mem_append.mp hx with h | h
    · exact f1 x h
    · exact dn x (f2 x h)
  · refine b.keep x o (a.keep x o h hn) ?_
    rw [e1]
    intro hm
    rcases List.mem_append.mp hm with q | q
    · exact hn q
    · rw [f1 x q] at h; cases h
  · rcases b.new x h with q | q
    · exact a.new x q
    · exact .inr (dn x q)
theorem Ext.hx {K : PySem.W.Frag} {st : Sto} {w w' : Wo} {H H' : Hp} (a : Ext w H w' H') (d : Wd K st w H) : HX w H w' H' := by
  obtain ⟨ν, e1, f1⟩ := a.mu
  refine ⟨⟨ν, e1.symm⟩, fun x o h => ?_⟩
  obtain ⟨h1, h2⟩ := hide_some.mp h
  refine hide_some.mpr ⟨fun hb => ?_, a.keep x o h2 fun hm => h1 (d.sub x hm)⟩
  rcases a.new x hb with q | q
  · exact h1 q
  · rw [q] at h2; cases h2
section
variable {K : PySem.W.Frag} {w w' : Wo} {H H' : Hp}
theorem rep_mono (e : HX w H w' H') : ∀ {x : D} {v : V}, Rep K w H x v → Rep K w' H' x v
  | .d p, _, h => dp_mono e.hid h
  | .ref n, _, ⟨a, h1, h2⟩ => ⟨a, by
      obtain ⟨t, e1⟩ := e.pre
      rw [← e1, List.getElem?_append_left (List.getElem?_eq_some_iff.mp h1).1]
      exact h1, h2⟩
  | .scr ns, _, ⟨a, h1, h2⟩ => ⟨a, h1, seqL_mono e.hid h2⟩
theorem reps_mono (e : HX w H w' H') : ∀ {xs : List D} {vs : List V}, Reps K w H xs vs → Reps K w' H' xs vs
  | [], [], _ => trivial
  | _ :: _, _ :: _, ⟨a, b⟩ => ⟨rep_mono e a, reps_mono e b⟩
  | [], _ :: _, h => h.elim
  | _ :: _, [], h => h.elim
theorem reps_len : ∀ {xs : List D} {vs : List V}, Reps K w H xs vs → vs.length = xs.length
  | [], [], _ => rfl
  | _ :: _, _ :: _, ⟨_, b⟩ => congrArg (· + 1) (reps_len b)
  | [], _ :: _, h => h.elim
  | _ :: _, [], h => h.elim
theorem reps_of : ∀ {ps : List PyData} {vs : List V}, DqAll K (hide w.B H) vs ps → Reps K w H (ps.map D.d) vs
  | _, _, .nil => trivial
  | _, _, .cons a t => ⟨a, reps_of t⟩
theorem dpAll_of : ∀ {xs : List D} {ps : List PyData} {vs : List V}, Reps K w H xs vs → datas xs = some ps → DqAll K (hide w.B H) vs ps
  | [], _, [], _, e => by cases e; exact .nil
  | .d p :: xs, ps, v :: vs, ⟨a, b⟩, e => by
    simp [datas] at e
    obtain ⟨r, e1, e2⟩ := e
    subst e2
    exact .cons a (dpAll_of b e1)
  | .ref _ :: _, _, _ :: _, _, e => by simp [datas] at e
  | .scr _ :: _, _, _ :: _, _, e => by simp [datas] at e
  | [], _, _ :: _, h, _ => h.elim
  | _ :: _, _, [], h, _ => h.elim
/-- a heap with more in it -/
theorem Ext.grown {st : Sto} (d : Wd K st w H) (k : Same H H') : Ext w H w H' ∧ Wd K st w H' := by
  have dm : ∀ a, H a ≠ none → H' a ≠ none := fun a h => by
    cases q : H a with
    | none => exact absurd q h
    | some o => rw [k a o q]; simp
  have hx : HX w H w H' := ⟨List.prefix_rfl, fun a o h => by
    obtain ⟨h1, h2⟩ := hide_some.mp h
    exact hide_some.mpr ⟨h1, k a o h2⟩⟩
  refine ⟨⟨⟨[], by simp, by simp⟩, fun a o h _ => k a o h, dm, fun _ h => h, fun _ h => .inl h⟩, ⟨d.nd, d.len, d.sub, fun a h => dm a (d.dom a h), fun n o h => ?_⟩⟩
  obtain ⟨a, h1, h2⟩ := d.obs n o h
  refine ⟨a, h1, ?_⟩
  cases o with
  | lst xs =>
    obtain ⟨vs, e, r⟩ := h2
    exact ⟨vs, k _ _ e, reps_mono hx r⟩
end

/-- how the names' places stand; w0, H0: the def's entry -/
structure EnvOk (K : PySem.W.Frag) (w0 : Wo) (H0 : Hp) (env : Env) (w : Wo) (σ : L2.St) (H : Hp) : Prop where
  ext : Ext w0 H0 w H
  len : env.length = σ.length
  val : ∀ (i : Nat) (x : D), env[i]? = some (.v x) → ∃ v, σ[i]? = some (some v) ∧ Rep K w H x v
  own : ∀ (i : Nat) (ps : List PyData), env[i]? = some (.own ps) → ∃ a vs, σ[i]? = some (some (.ref a)) ∧ w.B a ∧ a ∉ w.μ ∧ H0 a = none ∧ H a = some (.lst vs) ∧ DqAll K (hide w.B H) vs ps
  apart : ∀ (i j : Nat) (ps qs : List PyData) (a : Addr), env[i]? = some (.own ps) → env[j]? = some (.own qs) → σ[i]? = some (some (.ref a)) → σ[j]? = some (some (.ref a)) → i = j
theorem EnvOk.go {K : PySem.W.Frag} {w0 w w' : Wo} {H0 H H' : Hp} {env : Env} {σ : L2.St} {st : Sto} (h : EnvOk K w0 H0 env w σ H) (d : Wd K st w H) (e : Ext w H w' H') : EnvOk K w0 H0 env w' σ H' := by
  have hx := e.hx d
  refine ⟨h.ext.trans e, h.len, fun i x q => ?_, fun i ps q => ?_, h.apart⟩
  · obtain ⟨v, h1, h2⟩ := h.val i x q
    exact ⟨v, h1, rep_mono hx h2⟩
  · obtain ⟨a, vs, h1, h2, h3, h4, h5, h6⟩ := h.own i ps q
    refine ⟨a, vs, h1, e.up a h2, ?_, h4, e.keep a _ h5 h3, dpAll_mono hx.hid h6⟩
    obtain ⟨ν, e1, f1⟩ := e.mu
    rw [e1]
    intro hm
    rcases List.mem_append.mp hm with z | z
    · exact h3 z
    · rw [f1 a z] at h5; cases h5

/-- an exception's class, what it was made of, where it stands -/
abbrev XR := String → PyData → Value → Option Addr → Hp → Prop
section
variable (K : PySem.W.Frag) (X : XR) (E : XK)
/-- from a run's end to what is wanted -/
def outX {α : Type} (w : Wo) (H : Hp) (o : Out α) (k : α → Sto → Wo → Hp → Prop) : Prop := match o with
  | .ok a st' => ∀ w' H', Ext w H w' H' → Wd K st' w' H' → k a st' w' H'
  | .exc c p st' => ∀ w' H' cls dx, Ext w H w' H' → Wd K st' w' H' → X c p cls dx H' → E cls dx H'
  | .bad => False
end
section
variable {K : PySem.W.Frag} {X : XR} {E : XK} {α β : Type}
theorem outX_mono {w w1 : Wo} {H H1 : Hp} {o : Out α} {k : α → Sto → Wo → Hp → Prop} (e : Ext w H w1 H1) (h : outX K X E w H o k) : outX K X E w1 H1 o k := by
  cases o with
  | ok a st => exact fun w' H' e' d => h w' H' (e.trans e') d
  | exc c p st => exact fun w' H' cls dx e' d => h w' H' cls dx (e.trans e') d
  | bad => exact h
theorem outX_imp {w : Wo} {H : Hp} {o : Out α} {k k' : α → Sto → Wo → Hp → Prop} (h : outX K X E w H o k) (i : ∀ a st w' H', Ext w H w' H' → Wd K st w' H' → k a st w' H' → k' a st w' H') : outX K X E w H o k' := by
  cases o with
  | ok a st => exact fun w' H' e d => i a st w' H' e d (h w' H' e d)
  | exc c p st => exact h
  | bad => exact h
/-- first m, then f -/
theorem outX_bind {w : Wo} {H : Hp} {m : M α} {f : α → M β} {st : Sto} {k : β → Sto → Wo → Hp → Prop} (h : outX K X E w H (M.bind m f st) k) : outX K X E w H (m st) fun a st1 w1 H1 => outX K X E w1 H1 (f a st1) k := by
  unfold M.bind at h
  cases q : m st with
  | ok a st1 =>
    rw [q] at h
    exact fun w1 H1 e d => outX_mono e h
  | exc c p st1 =>
    rw [q] at h
    exact h
  | bad =>
    rw [q] at h
    exact h
theorem outX_lift {w : Wo} {H : Hp} {o : Option α} {st : Sto} {k : α → Sto → Wo → Hp → Prop} (h : outX K X E w H (M.lift o st) k) : ∃ a, o = some a ∧ outX K X E w H (M.pure a st) k := by
  cases o with
  | none => exact h.elim
  | some a => exact ⟨a, rfl, h⟩
theorem outX_need {w : Wo} {H : Hp} {x : D} {f : PyData → M β} {st : Sto} {k : β → Sto → Wo → Hp → Prop} (h : outX K X E w H (need x f st) k) : ∃ p, x = .d p ∧ outX K X E w H (f p st) k := by
  cases x with
  | d p => exact ⟨p, rfl, h⟩
  | ref n => exact h.elim
  | scr ns => exact h.elim
/-- at a plain end -/
theorem outX_now {w : Wo} {H : Hp} {a : α} {st : Sto} {k : α → Sto → Wo → Hp → Prop} (d : Wd K st w H) (h : outX K X E w H (M.pure a st) k) : k a st w H := h w H Ext.refl d
end

/-! ### the readings -/
section
variable (K : PySem.W.Frag) (X : XR) (w0 : Wo) (H0 : Hp) (E : XK)
def tE (m : Env → M D) : TE := fun σ H Q => ∃ (w : Wo) (st : Sto) (env : Env), EnvOk K w0 H0 env w σ H ∧ Wd K st w H ∧ outX K X E w H (m env st) fun x _ w' H' => ∀ v, Rep K w' H' x v → Q v H'
def tT (m : Env → M Bool) : TT := fun σ H Q => ∃ (w : Wo) (st : Sto) (env : Env), EnvOk K w0 H0 env w σ H ∧ Wd K st w H ∧ outX K X E w H (m env st) fun b _ _ H' => Q b H'
def tA (m : Env → M (List D)) : TA := fun σ H Q => ∃ (w : Wo) (st : Sto) (env : Env), EnvOk K w0 H0 env w σ H ∧ Wd K st w H ∧ outX K X E w H (m env st) fun xs _ w' H' => ∀ vs, Reps K w' H' xs vs → Q vs H'
def tO (m : Env → M (Option Int)) : TO := fun σ H Q => ∃ (w : Wo) (st : Sto) (env : Env), EnvOk K w0 H0 env w σ H ∧ Wd K st w H ∧ outX K X E w H (m env st) fun o _ _ H' => Q o H'
end
theorem PE.imp {Y : Cx} {e : Expr} {t t' : TE} (h : PE Y e t) (i : ∀ σ H Q, t' σ H Q → t σ H Q) : PE Y e t' := ⟨fun pins s σ H Q I q => h.run pins s σ H Q I (i σ H Q q)⟩
theorem PT.imp {Y : Cx} {e : Expr} {t t' : TT} (h : PT Y e t) (i : ∀ σ H Q, t' σ H Q → t σ H Q) : PT Y e t' := ⟨fun pins s σ H Q I q => h.run pins s σ H Q I (i σ H Q q)⟩
theorem PW.imp {Y : Cx} {e : Expr} {t t' : TT} (h : PW Y e t) (i : ∀ σ H Q, t' σ H Q → t σ H Q) : PW Y e t' := ⟨fun wh pins s σ H Q I q => h.run wh pins s σ H Q I (i σ H Q q)⟩
theorem PA.imp {Y : Cx} {e : List Expr} {t t' : TA} (h : PA Y e t) (i : ∀ σ H Q, t' σ H Q → t σ H Q) : PA Y e t' := ⟨fun pos pins s σ H Q I q => h.run pos pins s σ H Q I (i σ H Q q)⟩
theorem PO.imp {Y : Cx} {e : Option Expr} {t t' : TO} (h : PO Y e t) (i : ∀ σ H Q, t' σ H Q → t σ H Q) : PO Y e t' := ⟨fun pins s σ H Q I q => h.run pins s σ H Q I (i σ H Q q)⟩
section
variable {K : PySem.W.Frag} {X : XR} {w0 : Wo} {H0 : Hp} {E : XK} {w : Wo} {st : Sto} {env : Env} {σ : L2.St} {H : Hp} {β : Type}
/-- one step of a reading: the rest is asked behind it -/
theorem tE_go {m : Env → M D} {f : D → M β} {k : β → Sto → Wo → Hp → Prop} {R : VK} (hE : EnvOk K w0 H0 env w σ H) (hW : Wd K st w H) (h : outX K X E w H (M.bind (m env) f st) k)
    (g : ∀ x st1 w1 H1 v, Ext w H w1 H1 → EnvOk K w0 H0 env w1 σ H1 → Wd K st1 w1 H1 → Rep K w1 H1 x v → outX K X E w1 H1 (f x st1) k → R v H1) : tE K X w0 H0 E m σ H R :=
  ⟨w, st, env, hE, hW, outX_imp (outX_bind h) fun x st1 w1 H1 e d q v r => g x st1 w1 H1 v e (hE.go hW e) d r q⟩
theorem tT_go {m : Env → M Bool} {f : Bool → M β} {k : β → Sto → Wo → Hp → Prop} {R : Bool → Hp → Prop} (hE : EnvOk K w0 H0 env w σ H) (hW : Wd K st w H) (h : outX K X E w H (M.bind (m env) f st) k)
    (g : ∀ x st1 w1 H1, Ext w H w1 H1 → EnvOk K w0 H0 env w1 σ H1 → Wd K st1 w1 H1 → outX K X E w1 H1 (f x st1) k → R x H1) : tT K X w0 H0 E m σ H R :=
  ⟨w, st, env, hE, hW, outX_imp (outX_bind h) fun x st1 w1 H1 e d q => g x st1 w1 H1 e (hE.go hW e) d q⟩
theorem tA_go {m : Env → M (List D)} {f : List D → M β} {k : β → Sto → Wo → Hp → Prop} {R : List V → Hp → Prop} (hE : EnvOk K w0 H0 env w σ H) (hW : Wd K st w H) (h : outX K X E w H (M.bind (m env) f st) k)
    (g : ∀ xs st1 w1 H1 vs, Ext w H w1 H1 → EnvOk K w0 H0 env w1 σ H1 → Wd K st1 w1 H1 → Reps K w1 H1 xs vs → outX K X E w1 H1 (f xs st1) k → R vs H1) : tA K X w0 H0 E m σ H R :=
  ⟨w, st, env, hE, hW, outX_imp (outX_bind h) fun x st1 w1 H1 e d q v r => g x st1 w1 H1 v e (hE.go hW e) d r q⟩
theorem tO_go {m : Env → M (Option Int)} {f : Option Int → M β} {k : β → Sto → Wo → Hp → Prop} {R : Option Int → Hp → Prop} (hE : EnvOk K w0 H0 env w σ H) (hW : Wd K st w H) (h : outX K X E w H (M.bind (m env) f st) k)
    (g : ∀ x st1 w1 H1, Ext w H w1 H1 → EnvOk K w0 H0 env w1 σ H1 → Wd K st1 w1 H1 → outX K X E w1 H1 (f x st1) k → R x H1) : tO K X w0 H0 E m σ H R :=
  ⟨w, st, env, hE, hW, outX_imp (outX_bind h) fun x st1 w1 H1 e d q => g x st1 w1 H1 e (hE.go hW e) d q⟩
end

/-! ### laying data into a heap -/
/-- what an operation on data leaves: the datum r stands at v, nothing is changed -/
def Gives (K : PySem.W.Frag) (B : Addr → Prop) (H : Hp) (r : PyData) (Q : VK) : Prop := ∀ v H', Same H H' → Dq K (hide B H') v r → Q v H'
theorem same_new {H : Hp} {p : Addr} {o : HO} (h : H p = none) : Same H (upd H p o) := fun b x e => by
  rw [upd_ne (ne_of_none e h)]
  exact e
section
variable {K : PySem.W.Frag} {B : Addr → Prop} {H : Hp} {Q : VK}
theorem hide_same {H H' : Hp} (k : Same H H') : Same (hide B H) (hide B H') := fun a o h => by
  obtain ⟨h1, h2⟩ := hide_some.mp h
  exact hide_some.mpr ⟨h1, k a o h2⟩
/-- a new tuple, a new list -/
theorem gives_tup {ds : List PyData} {vs : List V} {p : Addr} (dom : ∀ a, B a → H a ≠ none) (g : Gives K B H (.tuple ds) Q) (h : DqAll K (hide B H) vs ds) (hp : H p = none) : Q (.ref p) (upd H p (.tup vs)) := by
  have nb : ¬ B p := fun hb => dom p hb hp
  refine g _ _ (same_new hp) (.tup (.inl (.inl (hide_some.mpr ⟨nb, upd_same⟩))) (dpAll_mono (hide_same (same_new hp)) h))
theorem gives_lst {ds : List PyData} {vs : List V} {p : Addr} (dom : ∀ a, B a → H a ≠ none) (g : Gives K B H (.list ds) Q) (h : DqAll K (hide B H) vs ds) (hp : H p = none) : Q (.ref p) (upd H p (.lst vs)) := by
  have nb : ¬ B p := fun hb => dom p hb hp
  refine g _ _ (same_new hp) (.lst (hide_some.mpr ⟨nb, upd_same⟩) (dpAll_mono (hide_same (same_new hp)) h))
theorem gives_now {r : PyData} {v : V} (g : Gives K B H r Q) (h : Dq K (hide B H) v r) : Q v H := g v H (Same.refl H) h
/-- two data in, one out -/
def rD (K : PySem.W.Frag) (g : PyData → PyData → Option PyData) : R2 := fun x y H Q => ∃ (B : Addr → Prop) (p q r : PyData), (∀ a, B a → H a ≠ none) ∧ Dq K (hide B H) x p ∧ Dq K (hide B H) y q ∧ g p q = some r ∧ Gives K B H r Q
end
/-- at the end of an operation in a reading -/
theorem outX_gives {K : PySem.W.Frag} {X : XR} {E : XK} {w : Wo} {H : Hp} {r : PyData} {st : Sto} {Q : VK} (d : Wd K st w H) (h : outX K X E w H (M.pure (D.d r) st) fun x _ w' H' => ∀ v, Rep K w' H' x v → Q v H') : Gives K w.B H r Q := fun v H' k q => by
  obtain ⟨e, d'⟩ := Ext.grown (H' := H') d k
  exact h w H' e d' v q
end Fb

set_option Elab.async false
set_option linter.all false
set_option maxRecDepth 100000
set_option maxHeartbeats 1000000
/-! each operation of the small language does in the model what it says -/
namespace Fb
open PySem PySem.Spec PyProof.Rows L2

theorem fits_le {n : Nat} (h : fitsLine n = true) : n ≤ sizeLine := by
  rw [sizeLine_eq]
  exact of_decide_eq_true h
/-- room for what a def may ask within -/
structure Roomy (A : Around) : Prop where
  units : A.units + 70 < cLine
  guards : A.guards = some []
section
variable {Y : Cx}
theorem rdLst {pins : List (Addr × Obj)} {σ : L2.St} {H : Hp} {s : Shared} {a : Addr} {xs : List V} (I : Inv Y pins σ H s) (h : H a = some (.lst xs)) :
    xs.length ≤ sizeLine ∧ ∃ (its : List Value) (n : Nat), Vals xs its ∧ xs.length = its.length ∧ s.heap.get? a = some { cls := .type "list", data := .seq its.toArray n } := I.lstM h
def Bo.ast : Bo → Operator
  | .add => .Add
  | .sub => .Sub
  | .mul => .Mult
  | .fdiv => .FloorDiv
  | .mod => .Mod
  | .pow => .Pow
theorem rep0 {α : Type} (n : Nat) : (List.replicate n ([] : List α)).flatten = [] := by
  induction n with
  | zero => rfl
  | succ n ih => rw [List.replicate_succ, List.flatten_cons, ih]; rfl
theorem bo_ok (o : Bo) : OpR Y (binaryOp o.ast) (rD Y.K o.run) := by
  intro pins s σ H x y v u Q I rx ry h
  obtain ⟨B, p, q, r, dom, hx, hy, e, g⟩ := h
  unfold Bo.run at e
  split at e
  · cases e; cases hx; cases hy
    exact op_add pins s σ H _ _ v u Q I rx ry ⟨_, _, rfl, rfl, gives_now g (.int _)⟩
  · split at e
    · rename_i hz
      cases e; cases hx; cases hy
      exact op_add_str pins s σ H _ _ v u Q I rx ry ⟨_, _, rfl, rfl, fits_le hz, gives_now g (.str _)⟩
    · cases e
  · split at e
    · rename_i hz
      cases e
      cases hx with
      | tup h1 h2 =>
        cases hy with
        | tup h3 h4 =>
          have l1 := h2.length
          have l2 := h4.length
          refine op_catA pins s σ H _ _ v u Q I rx ry ⟨_, _, _, _, rfl, rfl, seqT_mono hide_sub h1, seqT_mono hide_sub h3, ?_, fun e1 => ?_, fun _ e2 => ?_, fun _ _ a ha => ?_⟩
          · rw [l1, l2]; exact fits_le hz
          · subst e1
            cases h2
            exact gives_now g (.tup h3 h4)
          · subst e2
            cases h4
            rw [List.append_nil] at g
            exact gives_now g (.tup h1 h2)
          · exact gives_tup dom g (h2.append h4) ha
    · cases e
  · split at e
    · rename_i hz
      cases e
      cases hx with
      | lst h1 h2 =>
        cases hy with
        | lst h3 h4 =>
          have l1 := h2.length
          have l2 := h4.length
          exact op_cat pins s σ H _ _ v u Q I rx ry ⟨_, _, _, _, rfl, rfl, hide_sub _ _ h1, hide_sub _ _ h3, by rw [l1, l2]; exact fits_le hz, fun a ha => gives_lst dom g (h2.append h4) ha⟩
    · cases e
  · cases e; cases hx; cases hy
    exact op_sub pins s σ H _ _ v u Q I rx ry ⟨_, _, rfl, rfl, gives_now g (.int _)⟩
  · split at e
    · rename_i hz
      cases e; cases hx; cases hy
      refine op_mul pins s σ H _ _ v u Q I rx ry ⟨_, _, rfl, rfl, ?_, gives_now g (.int _)⟩
      unfold fits64 at hz
      simp only [Bool.or_eq_true, Bool.and_eq_true, decide_eq_true_eq] at hz
      exact hz
    · cases e
  · split at e
    · rename_i hz
      cases e
      cases hx with
      | tup h1 h2 =>
        cases hy
        have l1 := h2.length
        obtain ⟨z1, z2, z3⟩ := hz
        refine op_repA pins s σ H _ _ v u Q I rx ry ⟨_, _, _, rfl, rfl, seqT_mono hide_sub h1, z1, z2, by rw [l1]; exact z3, fun e0 => ?_, fun _ e0 a ha => ?_, fun _ _ a ha => gives_tup dom g (h2.rep _) ha⟩
        · rcases e0 with e0 | e0
          · subst e0
            cases h2
            rw [rep0] at g
            exact gives_now g (.tup h1 .nil)
          · subst e0
            rw [show (1 : Int).toNat = 1 from rfl, List.replicate_succ, List.replicate_zero, List.flatten_cons, List.flatten_nil, List.append_nil] at g
            exact gives_now g (.tup h1 h2)
        · subst e0
          exact gives_tup dom g .nil ha
    · cases e
  · split at e
    · rename_i hz
      cases e
      cases hx with
      | lst h1 h2 =>
        cases hy
        have l1 := h2.length
        obtain ⟨z1, z2, z3⟩ := hz
        refine op_rep pins s σ H _ _ v u Q I rx ry ⟨_, _, _, rfl, rfl, hide_sub _ _ h1, by omega, by omega, ?_, fun a ha => gives_lst dom g (h2.rep _) ha⟩
        rw [l1, sizeLine_eq]
        exact Nat.le_trans (Nat.mul_le_mul z3 (by omega : _ ≤ 1000)) (by decide)
    · cases e
  · split at e
    · rename_i hz
      cases e; cases hx; cases hy
      exact op_fdiv pins s σ H _ _ v u Q I rx ry ⟨_, _, rfl, rfl, hz, gives_now g (.int _)⟩
    · cases e
  · split at e
    · rename_i hz
      cases e; cases hx; cases hy
      exact op_mod pins s σ H _ _ v u Q I rx ry ⟨_, _, rfl, rfl, hz, gives_now g (.int _)⟩
    · cases e
  · split at e
    · rename_i hz
      cases e; cases hx; cases hy
      exact op_pow pins s σ H _ _ v u Q I rx ry ⟨_, _, rfl, rfl, hz, gives_now g (.int _)⟩
    · cases e
  · cases e

/-! ### comparisons -/
def Cm.ast : Cm → CmpOp
  | .eq => .Eq
  | .ne => .NotEq
  | .lt => .Lt
  | .le => .LtE
  | .gt => .Gt
  | .ge => .GtE
  | .is => .Is
  | .isnot => .IsNot
  | .in_ => .In
  | .notin => .NotIn
theorem eqP_ok (hu : Roomy Y.A) {pins : List (Addr × Obj)} {s : Shared} {σ : L2.St} {H : Hp} {x y : V} {v u : Value} {Q : VK} {B : Addr → Prop} {p q : PyData} {b : Bool} (I : Inv Y pins σ H s) (rx : RelV x v) (ry : RelV y u)
    (hx : Dq Y.K (hide B H) x p) (hy : Dq Y.K (hide B H) y q) (e : eqP p q = some b) (g : Q (.bl b) H) : wpAny (model Y.prog Y.w) Y.A (compareOp .Eq v u) (EP Y pins σ Q) Y.xe s := by
  have hu2 := hu.units
  unfold eqP at e
  split at e
  · cases e; cases hx; cases hy
    exact op_eq pins s σ H _ _ v u Q I rx ry ⟨rfl, by rw [show decide (V.int _ = V.int _) = _ from decide_eq_decide.mpr ⟨fun z => V.int.inj z, fun z => congrArg V.int z⟩]; exact g⟩
  · cases e; cases hx; cases hy
    refine op_eq pins s σ H _ _ v u Q I rx ry ⟨rfl, ?_⟩
    rw [show decide (V.bl _ = V.bl _) = _ from decide_eq_decide.mpr ⟨fun z => V.bl.inj z, fun z => congrArg V.bl z⟩]
    exact g
  · cases e; cases hx; cases hy
    refine op_eq pins s σ H _ _ v u Q I rx ry ⟨rfl, ?_⟩
    rw [show decide (V.str _ = V.str _) = _ from decide_eq_decide.mpr ⟨fun z => V.str.inj z, fun z => congrArg V.str z⟩]
    exact g
  · split at e
    · rename_i hz
      cases e
      obtain ⟨z1, z2⟩ := Bool.and_eq_true_iff.mp hz
      exact op_eqD (by omega) pins s σ H _ _ v u Q I rx ry ⟨_, _, hx.dp hide_sub, hy.dp hide_sub, z1, z2, g⟩
    · cases e
theorem neP_ok (hu : Roomy Y.A) {pins : List (Addr × Obj)} {s : Shared} {σ : L2.St} {H : Hp} {x y : V} {v u : Value} {Q : VK} {B : Addr → Prop} {p q : PyData} {b : Bool} (I : Inv Y pins σ H s) (rx : RelV x v) (ry : RelV y u)
    (hx : Dq Y.K (hide B H) x p) (hy : Dq Y.K (hide B H) y q) (e : eqP p q = some b) (g : Q (.bl (!b)) H) : wpAny (model Y.prog Y.w) Y.A (compareOp .NotEq v u) (EP Y pins σ Q) Y.xe s := by
  have hu2 := hu.units
  unfold eqP at e
  split at e
  · cases e; cases hx; cases hy
    exact op_ne pins s σ H _ _ v u Q I rx ry ⟨rfl, by rw [show decide (V.int _ = V.int _) = _ from decide_eq_decide.mpr ⟨fun z => V.int.inj z, fun z => congrArg V.int z⟩]; exact g⟩
  · cases e; cases hx; cases hy
    refine op_ne pins s σ H _ _ v u Q I rx ry ⟨rfl, ?_⟩
    rw [show decide (V.bl _ = V.bl _) = _ from decide_eq_decide.mpr ⟨fun z => V.bl.inj z, fun z => congrArg V.bl z⟩]
    exact g
  · cases e; cases hx; cases hy
    refine op_ne pins s σ H _ _ v u Q I rx ry ⟨rfl, ?_⟩
    rw [show decide (V.str _ = V.str _) = _ from decide_eq_decide.mpr ⟨fun z => V.str.inj z, fun z => congrArg V.str z⟩]
    exact g
  · split at e
    · rename_i hz
      cases e
      obtain ⟨z1, z2⟩ := Bool.and_eq_true_iff.mp hz
      exact op_neD (by omega) pins s σ H _ _ v u Q I rx ry ⟨_, _, hx.dp hide_sub, hy.dp hide_sub, z1, z2, g⟩
    · cases e
theorem isN_of {K : PySem.W.Frag} {H : Hp} {x : V} {p : PyData} (h : Dq K H x p) : decide (x = .non) = (match p with | .none => true | _ => false) := by
  cases h <;> rfl
theorem cm_ok (hu : Roomy Y.A) (c : Cm) : OpR Y (compareOp c.ast) (rD Y.K fun p q => (c.run p q).map PyData.bool) := by
  intro pins s σ H x y v u Q I rx ry h
  obtain ⟨B, p, q, r, dom, hx, hy, e, g⟩ := h
  have hu2 := hu.units
  obtain ⟨b, e9, er⟩ := Option.map_eq_some_iff.mp (show (c.run p q).map PyData.bool = some r from e)
  subst er
  clear e
  have e := e9
  clear e9
  have now : Q (.bl b) H := gives_now g (.bl b)
  unfold Cm.run at e
  split at e
  · exact eqP_ok hu I rx ry hx hy e now
  · obtain ⟨b', e', eb⟩ := Option.map_eq_some_iff.mp e
    subst eb
    exact neP_ok hu I rx ry hx hy e' now
  · cases e; cases hx; cases hy
    exact op_lt pins s σ H _ _ v u Q I rx ry ⟨_, _, rfl, rfl, now⟩
  · cases e; cases hx; cases hy
    exact op_le pins s σ H _ _ v u Q I rx ry ⟨_, _, rfl, rfl, now⟩
  · cases e; cases hx; cases hy
    exact op_gt pins s σ H _ _ v u Q I rx ry ⟨_, _, rfl, rfl, now⟩
  · cases e; cases hx; cases hy
    exact op_ge pins s σ H _ _ v u Q I rx ry ⟨_, _, rfl, rfl, now⟩
  · split at e
    · rename_i hz
      cases e
      unfold alikeB at hz
      simp only [Bool.and_eq_true, Bool.not_eq_true', decide_eq_true_eq] at hz
      obtain ⟨z1, z2, z3⟩ := hz
      obtain ⟨as, r1⟩ := Dp.reads I _ x v (hx.dp hide_sub) rx
      obtain ⟨bs, r2⟩ := Dp.reads I _ y u (hy.dp hide_sub) ry
      refine PySem.W.lt_data r1 r2 z1 (fun z => by subst z; cases z2) ?_ ⟨.bl _, H, I, rfl, now⟩
      have := Nat.min_le_left (PyData.depth p) (PyData.depth q)
      omega
    · cases e
  · cases e; cases hy
    refine op_isN pins s σ H _ _ v u Q I rx ry ⟨rfl, ?_⟩
    rw [isN_of hx]
    cases hx <;> exact now
  · cases e; cases hy
    refine op_notN pins s σ H _ _ v u Q I rx ry ⟨rfl, ?_⟩
    rw [isN_of hx]
    cases hx <;> exact now
  · cases e; cases hx; cases hy
    exact op_isBl pins s σ H _ _ v u Q I rx ry ⟨_, _, rfl, rfl, now⟩
  · cases e; cases hx; cases hy
    exact op_notBl pins s σ H _ _ v u Q I rx ry ⟨_, _, rfl, rfl, now⟩
  · split at e
    · rename_i hz
      cases e
      obtain ⟨z1, z2⟩ := Bool.and_eq_true_iff.mp hz
      exact op_inD (by omega) pins s σ H _ _ v u Q I rx ry ⟨_, _, hx.dp hide_sub, hy.dp hide_sub, z1, z2, now⟩
    · cases e
  · split at e
    · rename_i hz
      cases e
      obtain ⟨z1, z2⟩ := Bool.and_eq_true_iff.mp hz
      exact op_notInD (by omega) pins s σ H _ _ v u Q I rx ry ⟨_, _, hx.dp hide_sub, hy.dp hide_sub, z1, z2, now⟩
    · cases e
  · split at e
    · rename_i hz
      cases e
      obtain ⟨z1, z2⟩ := Bool.and_eq_true_iff.mp hz
      obtain ⟨as, r1⟩ := Dp.reads I _ x v (hx.dp hide_sub) rx
      obtain ⟨bs, r2⟩ := Dp.reads I _ y u (hy.dp hide_sub) ry
      have d1 := SeqAt.depth_of_shaped z1
      have c1 := SeqAt.canLay_of_shaped z1
      have c2 := SeqAt.canLay_of_shaped z2
      refine SeqAt.in_tuple_reads r2 r1 (by simpa only [PyData.canLay0] using c2) c1 (by omega) ⟨.bl _, H, I, rfl, now⟩
    · cases e
  · split at e
    · rename_i hz
      cases e
      obtain ⟨z1, z2⟩ := Bool.and_eq_true_iff.mp hz
      obtain ⟨as, r1⟩ := Dp.reads I _ x v (hx.dp hide_sub) rx
      obtain ⟨bs, r2⟩ := Dp.reads I _ y u (hy.dp hide_sub) ry
      have d1 := SeqAt.depth_of_shaped z1
      have c1 := SeqAt.canLay_of_shaped z1
      have c2 := SeqAt.canLay_of_shaped z2
      refine SeqAt.notIn_tuple_reads r2 r1 (by simpa only [PyData.canLay0] using c2) c1 (by omega) ⟨.bl _, H, I, rfl, now⟩
    · cases e
  · cases e

/-! ### items, slices -/
theorem atI_dq {K : PySem.W.Frag} {H : Hp} {ds : List PyData} {vs : List V} {i : Int} {d : PyData} (h : DqAll K H vs ds) (e : atI ds i = some d) : ∃ v, atI vs i = some v ∧ Dq K H v d := by
  unfold atI at e ⊢
  rw [h.length]
  obtain ⟨j, e1, e2⟩ := Option.bind_eq_some_iff.mp e
  obtain ⟨v, h1, h2⟩ := h.get e2
  exact ⟨v, by rw [e1]; exact h1, h2⟩
theorem ix_ok : IxR Y (rD Y.K fun p q => match q with
    | .int k => ixP p k
    | _ => none) := by
  intro value slice pins s σ H x y v u Q I rx ry h hs
  obtain ⟨B, p, q, r, dom, hx, hy, e, g⟩ := h
  cases hy with
  | int k =>
    simp only at e
    unfold ixP at e
    split at e
    · cases hx with
      | tup h1 h2 =>
        obtain ⟨z, e1, e2⟩ := atI_dq h2 e
        exact ix_tup value slice pins s σ H _ _ v u Q I rx ry ⟨_, _, k, z, rfl, rfl, seqT_mono hide_sub h1, e1, gives_now g e2⟩ hs
    · cases hx with
      | lst h1 h2 =>
        obtain ⟨z, e1, e2⟩ := atI_dq h2 e
        exact ix_list value slice pins s σ H _ _ v u Q I rx ry ⟨_, _, k, z, rfl, rfl, .inl (.inl (hide_sub _ _ h1)), e1, gives_now g e2⟩ hs
    · cases e
  | _ => simp at e
def rCut (K : PySem.W.Frag) : V → Option Int → Option Int → Hp → VK → Prop := fun x lo hi H Q => ∃ (B : Addr → Prop) (p r : PyData), (∀ a, B a → H a ≠ none) ∧ Dq K (hide B H) x p ∧ cutP p lo hi = some r ∧ Gives K B H r Q
theorem cut_whole {α : Type} {xs : List α} {lo hi : Option Int} (h : HT.sIx xs.length 0 lo = 0 ∧ HT.sIx xs.length xs.length hi = xs.length) : (xs.drop (HT.sIx xs.length 0 lo)).take (HT.sIx xs.length xs.length hi - HT.sIx xs.length 0 lo) = xs := by
  rw [h.1, h.2]
  simp
theorem cut_ok : SlR Y (rCut Y.K) := by
  intro pins s σ H x v vl vu lo hi sl Q I rx hs pl pu h
  obtain ⟨B, p, r, dom, hx, e, g⟩ := h
  unfold cutP at e
  split at e
  · cases e
    cases hx with
    | tup h1 h2 =>
      refine sl_tupA pins s σ H _ v vl vu lo hi sl Q I rx hs pl pu ⟨_, _, rfl, seqT_mono hide_sub h1, fun hw => ?_, fun hw a ha => ?_⟩
      · have hw' := hw
        rw [h2.length] at hw'
        rw [cut_whole hw'] at g
        exact gives_now g (.tup h1 h2)
      · refine gives_tup dom g ?_ ha
        unfold cutV
        rw [h2.length]
        exact (h2.drop _).take _
  · cases e
    cases hx with
    | lst h1 h2 =>
      refine sl_list pins s σ H _ v vl vu lo hi sl Q I rx hs pl pu ⟨_, _, rfl, .inl (.inl (hide_sub _ _ h1)), fun a ha => ?_⟩
      refine gives_lst dom g ?_ ha
      unfold cutV
      rw [h2.length]
      exact (h2.drop _).take _
  · cases e
end

/-! ### built-in functions -/
def Bl.name : Bl → String
  | .len => "len"
  | .tuple => "tuple"
  | .list => "list"
  | .sum => "sum"
  | .all => "all"
  | .any => "any"
  | .abs => "abs"
  | .max2 => "max"
  | .min2 => "min"
  | .maxL => "max"
  | .minL => "min"
  | .repr => "repr"
  | .int => "int"
def Bl.isTy : Bl → Bool
  | .tuple => true
  | .list => true
  | .int => true
  | _ => false
def Bl.val (f : Bl) : Value := if f.isTy then .type f.name else .builtin f.name
theorem dq1 {K : PySem.W.Frag} {H : Hp} {p : PyData} {vs : List V} (h : DqAll K H vs [p]) : ∃ v, vs = [v] ∧ Dq K H v p := by
  cases h with
  | cons a t => cases t; exact ⟨_, rfl, a⟩
theorem dq2 {K : PySem.W.Frag} {H : Hp} {p q : PyData} {vs : List V} (h : DqAll K H vs [p, q]) : ∃ v u, vs = [v, u] ∧ Dq K H v p ∧ Dq K H u q := by
  cases h with
  | cons a t =>
    cases t with
    | cons b t => cases t; exact ⟨_, _, rfl, a, b⟩
theorem preSum_at (ns : List Int) : ∀ k, k ≤ ns.length → preSum (fun i => ns.getD i 0) k = (ns.take k).sum
  | 0, _ => by simp [preSum]
  | k + 1, h => by
    rw [preSum, preSum_at ns k (by omega), List.take_add_one, List.getElem?_eq_getElem (by omega), List.sum_append]
    simp [List.getD, List.getElem?_eq_getElem (show k < ns.length by omega)]
theorem sum_tuple {prog : Program} {w : World} {A : Around} {E : Value → Shared → Prop} {s : Shared} {l : Addr} {its : List Value} {ns : List Int} {Q : Value → Shared → Prop} (hh : A.handled = none) (hl : s.heap.IsTuple l its.toArray) (hi : IntsAre its ns)
    (h : ∀ h' tk t', (∀ b o, s.heap.get? b = some o → h'.get? b = some o) → Q (.int ns.sum t') { s with heap := h', toks := tk }) : wpAny (model prog w) A (call (.builtin "sum") [.ref l]) Q E s := by
  have hlen := hi.length
  refine call_sum_walkAnyS (PySem.W.iter_tupleW (A := A.in1) hh hl fun s₂ e W st hfp hw hk => ?_)
  refine ⟨_, _, _, _, _, _, _, fun i => ns.getD i 0, rfl, W, st, hfp, fun i v hv => ?_, fun s' t' m => ?_⟩
  · obtain ⟨u, h1, t, h2⟩ : ∃ u, its[i]? = some u ∧ ∃ t, u = .int (ns.getD i 0) t := by
      have hv' : its[i]? = some v := by simpa using hv
      obtain ⟨hlt, _⟩ := List.getElem?_eq_some_iff.mp hv'
      have r := vals_of_ints hi
      obtain ⟨n, hn⟩ : ∃ n, ns[i]? = some n := ⟨_, List.getElem?_eq_getElem (by omega)⟩
      obtain ⟨u, e1, t, e2⟩ := r.get (i := i) (x := V.int n) (by rw [List.getElem?_map, hn]; rfl)
      exact ⟨u, e1, t, by rw [e2]; simp [List.getD, hn]⟩
    have hv' : its[i]? = some v := by simpa using hv
    rw [h1] at hv'
    cases hv'
    exact ⟨t, h2⟩
  · obtain ⟨h', tk, rfl, hk'⟩ := PySem.W.moved_old e rfl m
    have e1 : its.toArray.size = ns.length := by rw [List.size_toArray]; exact hlen
    rw [e1, preSum_at ns _ (Nat.le_refl _), List.take_length]
    exact h h' tk t' hk'
section
variable {Y : Cx}
theorem maxI_eq {n m : Int} {ns : List Int} (h1 : m ∈ n :: ns) (h2 : ∀ y, y ∈ n :: ns → y ≤ m) : m = maxI n ns := by
  have hi : ∀ (ns : List Int) (n : Int), (∀ y, y ∈ n :: ns → y ≤ maxI n ns) ∧ maxI n ns ∈ n :: ns := by
    intro ns
    induction ns with
    | nil => intro n; exact ⟨fun y hy => by simp at hy; subst hy; exact Int.le_refl _, by simp [maxI]⟩
    | cons a r ih =>
      intro n
      have q := ih (max n a)
      have e : maxI n (a :: r) = maxI (max n a) r := rfl
      rw [e]
      refine ⟨fun y hy => ?_, ?_⟩
      · have b := q.1 (max n a) (by simp)
        rcases List.mem_cons.mp hy with rfl | hy
        · omega
        · rcases List.mem_cons.mp hy with rfl | hy
          · omega
          · exact q.1 y (List.mem_cons_of_mem _ hy)
      · rcases List.mem_cons.mp q.2 with z | z
        · rw [z]
          by_cases c : n ≤ a
          · rw [Int.max_eq_right c]; simp
          · rw [Int.max_eq_left (by omega)]; simp
        · exact List.mem_cons_of_mem _ (List.mem_cons_of_mem _ z)
  exact Int.le_antisymm ((hi ns n).1 m h1) (h2 _ (hi ns n).2)
theorem minI_eq {n m : Int} {ns : List Int} (h1 : m ∈ n :: ns) (h2 : ∀ y, y ∈ n :: ns → m ≤ y) : m = minI n ns := by
  have hi : ∀ (ns : List Int) (n : Int), (∀ y, y ∈ n :: ns → minI n ns ≤ y) ∧ minI n ns ∈ n :: ns := by
    intro ns
    induction ns with
    | nil => intro n; exact ⟨fun y hy => by simp at hy; subst hy; exact Int.le_refl _, by simp [minI]⟩
    | cons a r ih =>
      intro n
      have q := ih (min n a)
      have e : minI n (a :: r) = minI (min n a) r := rfl
      rw [e]
      refine ⟨fun y hy => ?_, ?_⟩
      · have b := q.1 (min n a) (by simp)
        rcases List.mem_cons.mp hy with rfl | hy
        · omega
        · rcases List.mem_cons.mp hy with rfl | hy
          · omega
          · exact q.1 y (List.mem_cons_of_mem _ hy)
      · rcases List.mem_cons.mp q.2 with z | z
        · rw [z]
          by_cases c : n ≤ a
          · rw [Int.min_eq_left c]; simp
          · rw [Int.min_eq_right (by omega)]; simp
        · exact List.mem_cons_of_mem _ (List.mem_cons_of_mem _ z)
  exact Int.le_antisymm (h2 _ (hi ns n).2) ((hi ns n).1 m h1)
theorem alikeAll_of {xs : List PyData} (h : alikeAllB xs = true) : SeqAt.shaped (.list xs) = true ∧ PySem.W.AlikeAll xs ∧ PyData.depthAll xs ≤ 60 := by
  unfold alikeAllB at h
  simp only [Bool.and_eq_true, List.all_eq_true, Bool.not_eq_true', decide_eq_true_eq] at h
  obtain ⟨⟨h1, h2⟩, h3, h4⟩ := h
  exact ⟨h1, ⟨h2, fun x hx z => by subst z; cases h3 _ hx⟩, h4⟩
theorem minD_mem : ∀ (xs : List PyData) (x : PyData), PySem.W.minD x xs ∈ x :: xs
  | [], x => List.mem_cons_self
  | y :: ys, x => by
    have h := minD_mem ys (if PySem.W.dataLt y x then y else x)
    have e : PySem.W.minD x (y :: ys) = PySem.W.minD (if PySem.W.dataLt y x then y else x) ys := rfl
    rw [e]
    rcases List.mem_cons.mp h with z | z
    · rw [z]
      split <;> simp
    · exact List.mem_cons_of_mem _ (List.mem_cons_of_mem _ z)
theorem maxD_mem : ∀ (xs : List PyData) (x : PyData), PySem.W.maxD x xs ∈ x :: xs
  | [], x => List.mem_cons_self
  | y :: ys, x => by
    have h := maxD_mem ys (if PySem.W.dataLt x y then y else x)
    have e : PySem.W.maxD x (y :: ys) = PySem.W.maxD (if PySem.W.dataLt x y then y else x) ys := rfl
    rw [e]
    rcases List.mem_cons.mp h with z | z
    · rw [z]
      split <;> simp
    · exact List.mem_cons_of_mem _ (List.mem_cons_of_mem _ z)
theorem canLay_mem : ∀ {xs : List PyData}, PyData.canLayAll0 xs = true → ∀ {x : PyData}, x ∈ xs → x.canLay0 = true
  | [], _, _, hx => absurd hx List.not_mem_nil
  | y :: ys, h, x, hx => by
    simp only [PyData.canLayAll0, Bool.and_eq_true] at h
    rcases List.mem_cons.mp hx with z | z
    · rw [z]; exact h.1
    · exact canLay_mem h.2 z
theorem shaped_mem {xs : List PyData} (h : SeqAt.shaped (.list xs) = true) {x : PyData} (hx : x ∈ xs) : x.canLay0 = true := canLay_mem (by simpa only [PyData.canLay0] using SeqAt.canLay_of_shaped h) hx
/-- an item that reads as one of them -/
theorem pick_ok {pins : List (Addr × Obj)} {s : Shared} {σ : L2.St} {H : Hp} {B : Addr → Prop} {xs : List PyData} {vs : List V} {its : List Value} {i : Nat} {v : Value} {p : PyData} {h' : Heap} {tk : Nat} {bs : List Addr} {Q : VK} (I : Inv Y pins σ H s) (h2 : DqAll Y.K (hide B H) vs xs) (rv : Vals vs its) (hs : SeqAt.shaped (.list xs) = true) (hp : p ∈ xs)
    (hi : its[i]? = some v) (hr : Reads h' v p bs) (hk : ∀ b o, s.heap.get? b = some o → h'.get? b = some o) (g : Gives Y.K B H p Q) : EP Y pins σ Q v { s with heap := h', toks := tk } := by
  have hl : i < vs.length := by
    rw [rv.length]
    exact (List.getElem?_eq_some_iff.mp hi).1
  obtain ⟨u, hu, ru⟩ := rv.get (List.getElem?_eq_getElem hl)
  have hu' : u = v := by
    have e := hu
    rw [hi] at e
    exact (Option.some.inj e).symm
  subst hu'
  have hx : i < xs.length := by rw [← h2.length]; exact hl
  obtain ⟨w, hw, dq⟩ := h2.get (List.getElem?_eq_getElem hx)
  have ew : w = vs[i] := by
    rw [List.getElem?_eq_getElem hl] at hw
    exact (Option.some.inj hw).symm
  subst ew
  have I' : Inv Y pins σ H { s with heap := h', toks := tk } := I.kept (t' := tk) hk
  obtain ⟨as, r1⟩ := Dp.reads I' _ _ _ (dq.dp hide_sub) ru
  have e1 := SeqAt.readOf_eq (shaped_mem hs (List.getElem_mem hx)) r1
  have e2 := SeqAt.readOf_eq (shaped_mem hs hp) hr
  have e3 : p = xs[i] := e2.symm.trans e1
  subst e3
  exact ⟨_, H, I', ru, gives_now g dq⟩
/-- data in, a datum out -/
def rB (K : PySem.W.Frag) (g : List PyData → Option PyData) : List V → Hp → VK → Prop := fun vs H Q => ∃ (B : Addr → Prop) (ps : List PyData) (r : PyData), (∀ a, B a → H a ≠ none) ∧ DqAll K (hide B H) vs ps ∧ g ps = some r ∧ Gives K B H r Q
theorem repr_ok (hu : Roomy Y.A) {pins : List (Addr × Obj)} {s : Shared} {σ : L2.St} {H : Hp} {x : V} {u : Value} {Q : VK} {p : PyData} (I : Inv Y pins σ H s) (rx : RelV x u) (hx : Dp Y.K H x p) (h1 : p.showable = true) (h2 : p.hasDict = false) (h3 : p.shown.length ≤ sizeLine) (h4 : p.depth ≤ 64)
    (q : Q (.str p.shown) H) : wpAny (model Y.prog Y.w) Y.A (call (.builtin "repr") [u]) (EP Y pins σ Q) Y.xe s := by
  have hu2 := hu.units
  have deep : ∀ a, u = .ref a → wpAny (model Y.prog Y.w) Y.A (call (.builtin "repr") [u]) (EP Y pins σ Q) Y.xe s := fun a e => by
    subst e
    obtain ⟨as, r⟩ := Dp.reads I p x _ hx rx
    refine PySem.repr_of_reads' (h₀ := s.heap) r h1 (fun z => by rw [h2] at z; cases z) hu.guards (by omega) (fun _ _ z => z) (fun h' u' tk hk => ?_) h3
    exact ⟨.str p.shown, H, I.kept (t' := tk) hk, ⟨_, rfl⟩, q⟩
  cases hx with
  | non =>
    cases rx
    rw [PyData.shown_none] at q
    exact PySem.P.repr_of_none ⟨.str _, H, I.tok _, ⟨_, rfl⟩, q⟩
  | bl b =>
    cases rx
    rw [PyData.shown_bool] at q
    exact PySem.P.repr_of_bool ⟨.str _, H, I.tok _, ⟨_, rfl⟩, q⟩
  | int i =>
    obtain ⟨t, rfl⟩ := rx
    rw [PyData.shown_int] at q
    exact PySem.P.repr_of_int (by simpa [PyData.showable] using h1) ⟨.str _, H, I.tok _, ⟨_, rfl⟩, q⟩
  | str y =>
    obtain ⟨t, rfl⟩ := rx
    have e : (PyData.str y).shown = reprText y := by simp only [PyData.shown]
    rw [e] at q h3
    exact PySem.P.repr_of_str ⟨.str _, H, I.tok _, ⟨_, rfl⟩, q⟩ h3
  | lst _ _ => exact deep _ rx
  | tup _ _ => exact deep _ rx
theorem bl_ok (hu : Roomy Y.A) (hc : Y.calm = true) (f : Bl) : CallR Y f.val (rB Y.K f.run) := by
  intro pins s σ H vs us Q I r h
  obtain ⟨B, ps, p, dom, hv, e, g⟩ := h
  have hh := fun (σ H s) (I : Inv Y pins σ H s) => I.ok.hd hc
  unfold Bl.run at e
  split at e
  · cases e
    obtain ⟨v, rfl, hx⟩ := dq1 hv
    cases hx with
    | tup h1 h2 =>
      rw [← h2.length] at g
      exact call_len_seq pins s σ H _ us Q I r ⟨_, _, rfl, .inr (seqT_mono hide_sub h1), gives_now g (.int _)⟩
  · cases e
    obtain ⟨v, rfl, hx⟩ := dq1 hv
    cases hx with
    | lst h1 h2 =>
      rw [← h2.length] at g
      exact call_len_seq pins s σ H _ us Q I r ⟨_, _, rfl, .inl (.inl (.inl (hide_sub _ _ h1))), gives_now g (.int _)⟩
  · split at e
    · rename_i hz
      cases e
      obtain ⟨v, rfl, hx⟩ := dq1 hv
      cases hx
      exact call_len_str pins s σ H _ us Q I r ⟨_, rfl, fits_le hz, gives_now g (.int _)⟩
    · cases e
  · cases e
    obtain ⟨v, rfl, hx⟩ := dq1 hv
    cases hx with
    | tup h1 h2 => exact call_tuple_of pins s σ H _ us Q I r ⟨_, _, rfl, .inr ⟨seqT_mono hide_sub h1, gives_now g (.tup h1 h2)⟩⟩
  · cases e
    obtain ⟨v, rfl, hx⟩ := dq1 hv
    cases hx with
    | lst h1 h2 => exact call_tuple_of pins s σ H _ us Q I r ⟨_, _, rfl, .inl ⟨.inl (.inl (hide_sub _ _ h1)), fun a ha => gives_tup dom g h2 ha⟩⟩
  · cases e
    obtain ⟨v, rfl, hx⟩ := dq1 hv
    cases hx with
    | tup h1 h2 => exact call_list_of pins s σ H _ us Q I r ⟨_, _, rfl, .inr (seqT_mono hide_sub h1), fun a ha => gives_lst dom g h2 ha⟩
  · cases e
    obtain ⟨v, rfl, hx⟩ := dq1 hv
    cases hx with
    | lst h1 h2 => exact call_list_of pins s σ H _ us Q I r ⟨_, _, rfl, .inl (.inl (.inl (hide_sub _ _ h1))), fun a ha => gives_lst dom g h2 ha⟩
  · obtain ⟨ns, e1, rfl⟩ := Option.map_eq_some_iff.mp e
    obtain ⟨v, rfl, hx⟩ := dq1 hv
    cases hx with
    | lst h1 h2 =>
      have e2 := h2.ints e1
      subst e2
      exact cr_sum hc pins s σ H _ us Q I r ⟨_, ns, rfl, .inl (.inl (hide_sub _ _ h1)), gives_now g (.int _)⟩
  · obtain ⟨ns, e1, rfl⟩ := Option.map_eq_some_iff.mp e
    obtain ⟨v, rfl, hx⟩ := dq1 hv
    cases hx with
    | tup h1 h2 =>
      have e2 := h2.ints e1
      subst e2
      have e3 := r.ref1
      subst e3
      obtain ⟨its, rv, pl, _⟩ := I.tuple (seqT_mono hide_sub h1)
      exact sum_tuple (I.ok.hd hc) pl rv.ints fun h' tk t' hk => ⟨.int ns.sum, H, I.kept (t' := tk) hk, ⟨_, rfl⟩, gives_now g (.int _)⟩
  · obtain ⟨ns, e1, rfl⟩ := Option.map_eq_some_iff.mp e
    obtain ⟨v, rfl, hx⟩ := dq1 hv
    cases hx with
    | lst h1 h2 =>
      have e2 := h2.bools e1
      subst e2
      exact cr_all hc pins s σ H _ us Q I r ⟨_, ns, rfl, .inl (.inl (hide_sub _ _ h1)), gives_now g (.bl _)⟩
  · obtain ⟨ns, e1, rfl⟩ := Option.map_eq_some_iff.mp e
    obtain ⟨v, rfl, hx⟩ := dq1 hv
    cases hx with
    | lst h1 h2 =>
      have e2 := h2.bools e1
      subst e2
      exact cr_any hc pins s σ H _ us Q I r ⟨_, ns, rfl, .inl (.inl (hide_sub _ _ h1)), gives_now g (.bl _)⟩
  · cases e
    obtain ⟨v, rfl, hx⟩ := dq1 hv
    cases hx
    exact call_abs pins s σ H _ us Q I r ⟨_, rfl, gives_now g (.int _)⟩
  · cases e
    obtain ⟨v, u, rfl, hx, hy⟩ := dq2 hv
    cases hx; cases hy
    exact call_max2 hc pins s σ H _ us Q I r ⟨_, _, rfl, gives_now g (.int _)⟩
  · cases e
    obtain ⟨v, u, rfl, hx, hy⟩ := dq2 hv
    cases hx; cases hy
    exact call_min2 hc pins s σ H _ us Q I r ⟨_, _, rfl, gives_now g (.int _)⟩
  · split at e
    · rename_i n ns e1
      cases e
      obtain ⟨v, rfl, hx⟩ := dq1 hv
      cases hx with
      | lst h1 h2 =>
        have e2 := h2.ints e1
        subst e2
        refine cr_max hc pins s σ H _ us Q I r ⟨_, n :: ns, rfl, .inl (.inl (hide_sub _ _ h1)), by simp, fun m m1 m2 => ?_⟩
        rw [maxI_eq m1 m2]
        exact gives_now g (.int _)
    · cases e
    · split at e
      · rename_i x r0
        split at e
        · rename_i hz
          cases e
          obtain ⟨z1, z2, z3⟩ := alikeAll_of hz
          obtain ⟨v, rfl, hx⟩ := dq1 hv
          cases hx with
          | lst h1 h2 =>
            have e3 := r.ref1
            subst e3
            obtain ⟨its, rv, pl, _⟩ := I.list (.inl (.inl (hide_sub _ _ h1)))
            obtain ⟨as, h4⟩ := Dp.readsAll I _ _ its (h2.dp hide_sub) rv
            have hu2 := hu.units
            exact PySem.W.max_list_data (I.ok.hd hc) pl.isList h4 z2 (by omega) fun i v h' tk bs hi hr hk => pick_ok I h2 rv z1 (maxD_mem _ _) (by simpa using hi) hr hk g
        · cases e
      · cases e
  · split at e
    · rename_i n ns e1
      cases e
      obtain ⟨v, rfl, hx⟩ := dq1 hv
      cases hx with
      | lst h1 h2 =>
        have e2 := h2.ints e1
        subst e2
        refine cr_min hc pins s σ H _ us Q I r ⟨_, n :: ns, rfl, .inl (.inl (hide_sub _ _ h1)), by simp, fun m m1 m2 => ?_⟩
        rw [minI_eq m1 m2]
        exact gives_now g (.int _)
    · cases e
    · split at e
      · rename_i x r0
        split at e
        · rename_i hz
          cases e
          obtain ⟨z1, z2, z3⟩ := alikeAll_of hz
          obtain ⟨v, rfl, hx⟩ := dq1 hv
          cases hx with
          | lst h1 h2 =>
            have e3 := r.ref1
            subst e3
            obtain ⟨its, rv, pl, _⟩ := I.list (.inl (.inl (hide_sub _ _ h1)))
            obtain ⟨as, h4⟩ := Dp.readsAll I _ _ its (h2.dp hide_sub) rv
            have hu2 := hu.units
            exact PySem.W.min_list_data (I.ok.hd hc) pl.isList h4 z2 (by omega) fun i v h' tk bs hi hr hk => pick_ok I h2 rv z1 (minD_mem _ _) (by simpa using hi) hr hk g
        · cases e
      · cases e
  · split at e
    · rename_i hz
      cases e
      simp only [Bool.and_eq_true, Bool.not_eq_true'] at hz
      obtain ⟨⟨⟨z1, z2⟩, z3⟩, z4⟩ := hz
      obtain ⟨v, rfl, hx⟩ := dq1 hv
      obtain ⟨u, rfl, rx⟩ := vals1 r
      exact repr_ok hu I rx (hx.dp hide_sub) z1 z2 (fits_le z3) (SeqAt.depth_of_shaped z4) (gives_now g (.str _))
    · cases e
  · cases e
    obtain ⟨v, rfl, hx⟩ := dq1 hv
    cases hx
    exact call_int1 pins s σ H _ us Q I r (.inl ⟨_, rfl, gives_now g (.int _)⟩)
  · cases e
    obtain ⟨v, rfl, hx⟩ := dq1 hv
    cases hx
    exact call_int1 pins s σ H _ us Q I r (.inr ⟨_, rfl, gives_now g (.int _)⟩)
  · cases e
/-- len(script), script[i] -/
theorem len_scr {K : PySem.W.Frag} (hK : K = Y.K) : CallR Y (.builtin "len") (fun vs H Q => ∃ a ns, vs = [.ref a] ∧ SqL K H a (List.map V.int ns) ∧ Q (.int (ns.length : Nat)) H) := by
  subst hK
  intro pins s σ H vs us Q I r h
  obtain ⟨a, ns, rfl, hs, q⟩ := h
  refine call_len_seq pins s σ H _ us Q I r ⟨_, _, rfl, .inl hs, ?_⟩
  rw [List.length_map]
  exact q

/-! ### isinstance -/
def Ty.name : Ty → String
  | .int => "int"
  | .bool => "bool"
  | .str => "str"
  | .tuple => "tuple"
  | .list => "list"
theorem isi_ok {pins : List (Addr × Obj)} {s : Shared} {σ : L2.St} {H : Hp} {x : V} {u : Value} {Q : VK} {B : Addr → Prop} {p : PyData} (t : Ty) (I : Inv Y pins σ H s) (rx : RelV x u) (hx : Dq Y.K (hide B H) x p) (q : Q (.bl (t.is p)) H) :
    wpAny (model Y.prog Y.w) Y.A (call (.builtin "isinstance") [u, .type t.name]) (EP Y pins σ Q) Y.xe s := by
  have key : ∀ (n : String) (b : Bool), TyX Y.K H x (.type n) → kitB n t.name = some b → t.is p = b → wpAny (model Y.prog Y.w) Y.A (call (.builtin "isinstance") [u, .type t.name]) (EP Y pins σ Q) Y.xe s := fun n b ty k e => by
    refine call_isi pins s σ H [x, .ty t.name] [u, .type t.name] Q I (.cons rx (.cons rfl .nil)) ⟨x, .ty t.name, .type n, .type t.name, b, rfl, .ty _, ty, kit_ty k, ?_⟩
    rw [← e]
    exact q
  cases hx with
  | non => cases t <;> exact key "NoneType" false (.base .non) (by decide +kernel) rfl
  | bl b => cases t <;> first | exact key "bool" true (.base (.bl _)) (by decide +kernel) rfl | exact key "bool" false (.base (.bl _)) (by decide +kernel) rfl
  | int i => cases t <;> first | exact key "int" true (.base (.int _)) (by decide +kernel) rfl | exact key "int" false (.base (.int _)) (by decide +kernel) rfl
  | str y => cases t <;> first | exact key "str" true (.base (.str _)) (by decide +kernel) rfl | exact key "str" false (.base (.str _)) (by decide +kernel) rfl
  | lst h1 h2 =>
    have ty : TyX Y.K H _ (.type "list") := .base (.lst (hide_sub _ _ h1))
    cases t <;> first | exact key "list" true ty (by decide +kernel) rfl | exact key "list" false ty (by decide +kernel) rfl
  | @tup a xs ds h1 h2 =>
    have ty : TyX Y.K H (.ref a) (.type "tuple") := by
      rcases seqT_mono hide_sub h1 with (h | ⟨o, h⟩) | ⟨o, its, n, h, hc, _⟩
      · exact .base (.tup h)
      · exact .fTuple h
      · exact .kTuple h hc
    cases t <;> first | exact key "tuple" true ty (by decide +kernel) rfl | exact key "tuple" false ty (by decide +kernel) rfl
end
end Fb

set_option Elab.async false
set_option linter.all false
set_option maxRecDepth 100000
set_option maxHeartbeats 1000000
/-! names' places, targets, calls -/
namespace Fb
open PySem PySem.Spec PyProof.Rows L2

/-! ### places -/
section
variable {K : PySem.W.Frag} {w0 w : Wo} {H0 H : Hp} {env : Env} {σ : L2.St}
theorem EnvOk.setV {i : Nat} {x : D} {v : V} (h : EnvOk K w0 H0 env w σ H) (r : Rep K w H x v) : EnvOk K w0 H0 (env.set i (.v x)) w (σ.set i (some v)) H := by
  have ne : ∀ (j : Nat) (ps : List PyData), (env.set i (.v x))[j]? = some (.own ps) → j ≠ i ∧ env[j]? = some (.own ps) := fun j ps q => by
    by_cases e : i = j
    · subst e
      rw [List.getElem?_set] at q
      split at q
      · split at q <;> cases q
      · exact absurd rfl (by assumption)
    · rw [List.getElem?_set_ne e] at q
      exact ⟨fun z => e z.symm, q⟩
  refine ⟨h.ext, by rw [List.length_set, List.length_set]; exact h.len, fun j y q => ?_, fun j ps q => ?_, fun j k ps qs a q1 q2 q3 q4 => ?_⟩
  · by_cases e : i = j
    · subst e
      have hl : i < env.length := by
        have := (List.getElem?_eq_some_iff.mp q).1
        simpa using this
      rw [List.getElem?_set_self hl] at q
      cases q
      exact ⟨v, List.getElem?_set_self (by rw [← h.len]; exact hl), r⟩
    · rw [List.getElem?_set_ne e] at q
      obtain ⟨u, h1, h2⟩ := h.val j y q
      exact ⟨u, by rw [List.getElem?_set_ne e]; exact h1, h2⟩
  · obtain ⟨e, q⟩ := ne j ps q
    obtain ⟨a, vs, h1, h2⟩ := h.own j ps q
    exact ⟨a, vs, by rw [List.getElem?_set_ne (Ne.symm e)]; exact h1, h2⟩
  · obtain ⟨e1, q1⟩ := ne j ps q1
    obtain ⟨e2, q2⟩ := ne k qs q2
    rw [List.getElem?_set_ne (Ne.symm e1)] at q3
    rw [List.getElem?_set_ne (Ne.symm e2)] at q4
    exact h.apart j k ps qs a q1 q2 q3 q4
theorem wipe_get (σ : L2.St) : ∀ (vs : List Nat) (i : Nat), (wipe σ vs)[i]? = if i ∈ vs ∧ i < σ.length then some none else σ[i]?
  | [], i => by simp [wipe]
  | v :: vs, i => by
    unfold wipe
    rw [List.getElem?_set, wipe_get σ vs i, wipe_length]
    by_cases e : v = i
    · subst e
      by_cases l : v < σ.length
      · simp [l]
      · simp [l]
    · rw [if_neg e]
      have e' : ¬ i = v := fun z => e z.symm
      simp [e']
theorem wipeE_get (env : Env) : ∀ (vs : List Nat) (i : Nat), (wipeE env vs)[i]? = if i ∈ vs ∧ i < env.length then some .un else env[i]?
  | [], i => by simp [wipeE]
  | v :: vs, i => by
    have hl : ∀ vs, (wipeE env vs).length = env.length := fun vs => by
      induction vs with
      | nil => rfl
      | cons a r ih => unfold wipeE; rw [List.length_set, ih]
    unfold wipeE
    rw [List.getElem?_set, wipeE_get env vs i, hl]
    by_cases e : v = i
    · subst e
      by_cases l : v < env.length
      · simp [l]
      · simp [l]
    · rw [if_neg e]
      have e' : ¬ i = v := fun z => e z.symm
      simp [e']
theorem wipeE_length (env : Env) : ∀ vs : List Nat, (wipeE env vs).length = env.length
  | [] => rfl
  | a :: r => by unfold wipeE; rw [List.length_set, wipeE_length env r]
theorem wipe_eq {σ σ2 : L2.St} {vs : List Nat} (hl : σ2.length = σ.length) (h : ∀ i, i ∉ vs → σ2[i]? = σ[i]?) : wipe σ2 vs = wipe σ vs := by
  apply List.ext_getElem?
  intro i
  rw [wipe_get, wipe_get, hl]
  by_cases e : i ∈ vs
  · by_cases l : i < σ.length
    · simp [e, l]
    · simp [l]
      omega
  · simp [e]
    exact h i e
theorem EnvOk.wiped (h : EnvOk K w0 H0 env w σ H) (vs : List Nat) : EnvOk K w0 H0 (wipeE env vs) w (wipe σ vs) H := by
  have at_ : ∀ (i : Nat) (y : Sl), y ≠ .un → (wipeE env vs)[i]? = some y → env[i]? = some y ∧ (wipe σ vs)[i]? = σ[i]? := fun i y hy q => by
    rw [wipeE_get] at q
    rw [wipe_get, ← h.len]
    split at q
    · cases q; exact absurd rfl hy
    · rename_i e
      rw [if_neg e]
      exact ⟨q, rfl⟩
  refine ⟨h.ext, by rw [wipeE_length, wipe_length]; exact h.len, fun i x q => ?_, fun i ps q => ?_, fun i j ps qs a q1 q2 q3 q4 => ?_⟩
  · obtain ⟨e1, e2⟩ := at_ i (.v x) (fun z => by cases z) q
    obtain ⟨v, h1, h2⟩ := h.val i x e1
    exact ⟨v, by rw [e2]; exact h1, h2⟩
  · obtain ⟨e1, e2⟩ := at_ i (.own ps) (fun z => by cases z) q
    obtain ⟨a, us, h1, h2⟩ := h.own i ps e1
    exact ⟨a, us, by rw [e2]; exact h1, h2⟩
  · obtain ⟨e1, e2⟩ := at_ i (.own ps) (fun z => by cases z) q1
    obtain ⟨e3, e4⟩ := at_ j (.own qs) (fun z => by cases z) q2
    rw [e2] at q3
    rw [e4] at q4
    exact h.apart i j ps qs a e1 e3 q3 q4
end

/-! ### no star -/
def plainE : Expr → Bool
  | .Starred _ _ => false
  | _ => true
theorem star_cons {e : Expr} {es : List Expr} {env : PySem.Env} (h : plainE e = true) : starEach (e :: es) env = (false, eval e env) :: starEach es env := by
  cases e <;> first | rfl | cases h
theorem star_none {env : PySem.Env} {pos : Pos} : ∀ {es : List Expr}, es.all plainE = true → (backTo pos (starEach es env)).any (·.1) = false
  | [], _ => rfl
  | e :: es, h => by
    simp only [List.all_cons, Bool.and_eq_true] at h
    rw [star_cons h.1]
    have ih := star_none (env := env) (pos := pos) h.2
    simpa [backTo] using ih
theorem assign_cons {e : Expr} {es : List Expr} {env : PySem.Env} (h : plainE e = true) : assignEach (e :: es) env = (false, assign e env) :: assignEach es env := by
  cases e <;> first | rfl | cases h
theorem assign_len {env : PySem.Env} : ∀ {es : List Expr}, es.all plainE = true → (assignEach es env).length = es.length ∧ (assignEach es env).findIdx? (·.1) = none
  | [], _ => ⟨rfl, rfl⟩
  | e :: es, h => by
    simp only [List.all_cons, Bool.and_eq_true] at h
    obtain ⟨h1, h2⟩ := assign_len (env := env) h.2
    rw [assign_cons h.1]
    refine ⟨by simp [h1], ?_⟩
    rw [List.findIdx?_cons]
    simp [h2]

/-! ### targets -/
mutual
def T.slots : T → List Nat
  | .nm i => [i]
  | .tp ts => ts.slots
def Ts.slots : Ts → List Nat
  | .nil => []
  | .cons t ts => t.slots ++ ts.slots
end
def locOk (sc : Scope) (fb : Str → Bool) (x : Str) : Bool := match sc.names.lookup x with
  | some .local => true
  | some .cell => fb x
  | _ => false
mutual
def T.chk (N : List Str) (sc : Scope) (fb : Str → Bool) : T → Expr → Bool
  | .nm i, .Name x _ => decide (N[i]? = some x) && locOk sc fb x
  | .tp ts, .Tuple es _ _ => ts.chk N sc fb es
  | _, _ => false
def Ts.chk (N : List Str) (sc : Scope) (fb : Str → Bool) : Ts → List Expr → Bool
  | .nil, [] => true
  | .cons t ts, e :: es => plainE e && (t.chk N sc fb e && ts.chk N sc fb es)
  | _, _ => false
end
theorem loc_of {Y : Cx} {fb : Str → Bool} {sc : Scope} {x : Str} (hs : Y.env.scope = sc) (hf : Y.fn = fb) (h : locOk sc fb x = true) : Loc Y.env.scope x ∧ (Y.fn x = true ∨ Y.env.scope.names.lookup x = some .local) := by
  subst hs hf
  unfold locOk at h
  split at h
  · rename_i q; exact ⟨.inl q, .inr q⟩
  · rename_i q; exact ⟨.inr q, .inl h⟩
  · cases h
section
variable (K : PySem.W.Frag) (w0 : Wo) (H0 : Hp)
def tG (t : T) : TG := fun v σ H Q => ∃ (w : Wo) (st : Sto) (env : Env) (x : D) (env' : Env), EnvOk K w0 H0 env w σ H ∧ Wd K st w H ∧ Rep K w H x v ∧ t.bind x env = some env' ∧
  ∀ σ', EnvOk K w0 H0 env' w σ' H → σ'.length = σ.length → (∀ i, i ∉ t.slots → σ'[i]? = σ[i]?) → Q σ' H
def tGs (ts : Ts) : TGs := fun vs σ H Q => ∃ (w : Wo) (st : Sto) (env : Env) (xs : List D) (env' : Env), EnvOk K w0 H0 env w σ H ∧ Wd K st w H ∧ Reps K w H xs vs ∧ ts.bind xs env = some env' ∧
  ∀ σ', EnvOk K w0 H0 env' w σ' H → σ'.length = σ.length → (∀ i, i ∉ ts.slots → σ'[i]? = σ[i]?) → Q σ' H
end
theorem PG.imp {Y : Cx} {e : Expr} {t t' : TG} (h : PG Y e t) (i : ∀ v σ H Q, t' v σ H Q → t v σ H Q) : PG Y e t' := ⟨fun pins s σ H v u Q I r q => h.run pins s σ H v u Q I r (i v σ H Q q)⟩
theorem PGs.imp {Y : Cx} {e : List Expr} {t t' : TGs} (h : PGs Y e t) (i : ∀ v σ H Q, t' v σ H Q → t v σ H Q) : PGs Y e t' := ⟨fun pins s σ H v u Q I r q => h.run pins s σ H v u Q I r (i v σ H Q q)⟩
mutual
theorem sndT {K : PySem.W.Frag} {w0 : Wo} {H0 : Hp} {N : List Str} {sc : Scope} {fb : Str → Bool} {Y : Cx} (hK : Y.K = K) (hN : Y.N = N) (hnd : Y.N.Nodup) (hs : Y.env.scope = sc) (hf : Y.fn = fb) (hc : Y.calm = true) :
    ∀ (t : T) (e : Expr), t.chk N sc fb e = true → PG Y e (tG K w0 H0 t)
  | .nm i, e, h => by
    unfold T.chk at h
    split at h
    · rename_i i' x pos e1
      cases e1
      simp only [Bool.and_eq_true, decide_eq_true_eq] at h
      obtain ⟨l1, l2⟩ := loc_of hs hf h.2
      refine PG.imp (pg_name hnd (by rw [hN]; exact h.1) l1 l2) fun v σ H Q q => ?_
      obtain ⟨w, st, env, y, env', hE, hW, r, b, k⟩ := q
      unfold T.bind at b
      split at b
      · cases b
        refine k _ (hE.setV r) (by rw [List.length_set]) fun j hj => ?_
        rw [List.getElem?_set_ne]
        intro z
        exact hj (by simp [T.slots, z])
      · cases b
    · rename_i e1; cases e1
    · cases h
  | .tp ts, e, h => by
    unfold T.chk at h
    split at h
    · rename_i e1; cases e1
    · rename_i ts' es kk pos e1
      cases e1
      have hp := allP ts es h
      obtain ⟨l1, l2⟩ := assign_len (env := Y.env) hp
      refine PG.imp (pg_tup hc (sndTs (K := K) (w0 := w0) (H0 := H0) hK hN hnd hs hf hc ts es h) l1 l2) fun v σ H Q q => ?_
      obtain ⟨w, st, env, y, env', hE, hW, r, b, k⟩ := q
      cases y with
      | d p =>
        cases p with
        | tuple ps =>
          simp only [T.bind] at b
          cases r with
          | tup h1 h2 =>
            have h3 := reps_of (w := w) h2
            have lb := bindLen ts _ _ _ b
            subst hK
            refine ⟨_, _, rfl, seqT_mono hide_sub h1, ?_, w, st, env, _, env', hE, hW, h3, b, k⟩
            rw [reps_len h3, lb]
            exact lenE ts es h
        | _ => simp [T.bind] at b
      | _ => simp [T.bind] at b
    · cases h
theorem sndTs {K : PySem.W.Frag} {w0 : Wo} {H0 : Hp} {N : List Str} {sc : Scope} {fb : Str → Bool} {Y : Cx} (hK : Y.K = K) (hN : Y.N = N) (hnd : Y.N.Nodup) (hs : Y.env.scope = sc) (hf : Y.fn = fb) (hc : Y.calm = true) :
    ∀ (ts : Ts) (es : List Expr), ts.chk N sc fb es = true → PGs Y es (tGs K w0 H0 ts)
  | .nil, [], _ => by
    refine PGs.imp pgs_nil fun v σ H Q q => ?_
    obtain ⟨w, st, env, xs, env', hE, hW, r, b, k⟩ := q
    cases xs with
    | nil =>
      simp only [Ts.bind] at b
      cases b
      cases v with
      | nil => exact ⟨rfl, k σ hE rfl fun _ _ => rfl⟩
      | cons _ _ => exact r.elim
    | cons _ _ => simp [Ts.bind] at b
  | .cons t ts, e :: es, h => by
    simp only [Ts.chk, Bool.and_eq_true] at h
    obtain ⟨h1, h2, h3⟩ := h
    refine PGs.imp (pgs_cons (sndT (K := K) (w0 := w0) (H0 := H0) hK hN hnd hs hf hc t e h2) (sndTs (K := K) (w0 := w0) (H0 := H0) hK hN hnd hs hf hc ts es h3) (by rw [assign_cons h1]; rfl)) fun v σ H Q q => ?_
    obtain ⟨w, st, env, xs, env', hE, hW, r, b, k⟩ := q
    cases xs with
    | nil => simp [Ts.bind] at b
    | cons x xs =>
      simp only [Ts.bind] at b
      obtain ⟨env1, b1, b2⟩ := Option.bind_eq_some_iff.mp b
      cases v with
      | nil => exact r.elim
      | cons u us =>
        obtain ⟨r1, r2⟩ := r
        refine ⟨u, us, rfl, w, st, env, _, env1, hE, hW, r1, b1, fun σ1 hE1 hl1 ha1 => ⟨w, st, env1, _, env', hE1, hW, r2, b2, fun σ2 hE2 hl2 ha2 => k σ2 hE2 (hl2.trans hl1) fun i hi => ?_⟩⟩
        simp only [Ts.slots, List.mem_append, not_or] at hi
        rw [ha2 i hi.2, ha1 i hi.1]
  | .nil, _ :: _, h => by simp [Ts.chk] at h
  | .cons _ _, [], h => by simp [Ts.chk] at h
theorem allP {N : List Str} {sc : Scope} {fb : Str → Bool} : ∀ (ts : Ts) (es : List Expr), ts.chk N sc fb es = true → es.all plainE = true
  | .nil, [], _ => rfl
  | .cons t ts, e :: es, h => by
    simp only [Ts.chk, Bool.and_eq_true] at h
    simp only [List.all_cons, Bool.and_eq_true]
    exact ⟨h.1, allP ts es h.2.2⟩
  | .nil, _ :: _, h => by simp [Ts.chk] at h
  | .cons _ _, [], h => by simp [Ts.chk] at h
theorem lenE {N : List Str} {sc : Scope} {fb : Str → Bool} : ∀ (ts : Ts) (es : List Expr), ts.chk N sc fb es = true → ts.len = es.length
  | .nil, [], _ => rfl
  | .cons t ts, e :: es, h => by
    simp only [Ts.chk, Bool.and_eq_true] at h
    simp only [Ts.len, List.length_cons, lenE ts es h.2.2]
  | .nil, _ :: _, h => by simp [Ts.chk] at h
  | .cons _ _, [], h => by simp [Ts.chk] at h
theorem bindLen : ∀ (ts : Ts) (xs : List D) (env env' : Env), ts.bind xs env = some env' → xs.length = ts.len
  | .nil, [], _, _, _ => rfl
  | .cons t ts, x :: xs, env, env', h => by
    simp only [Ts.bind] at h
    obtain ⟨e1, _, h2⟩ := Option.bind_eq_some_iff.mp h
    simp only [Ts.len, List.length_cons, bindLen ts xs e1 env' h2]
  | .nil, _ :: _, _, _, h => by simp [Ts.bind] at h
  | .cons _ _, [], _, _, h => by simp [Ts.bind] at h
end
end Fb

set_option Elab.async false
set_option linter.all false
set_option maxRecDepth 100000
set_option maxHeartbeats 1000000
/-! what loops walk; a new list that grows turn by turn -/
namespace Fb
open PySem PySem.Spec PyProof.Rows L2
section
variable {K : PySem.W.Frag} {X : XR} {E : XK} {w0 w w' : Wo} {H0 H H' : Hp} {st : Sto}
/-- a reading whose run is known -/
theorem tE_ok {m : Env → M D} {env : Env} {σ : L2.St} {a : D} {st' : Sto} {Q : VK} (hE : EnvOk K w0 H0 env w σ H) (hW : Wd K st w H) (e : m env st = .ok a st') (k : ∀ w' H' v, Ext w H w' H' → Wd K st' w' H' → Rep K w' H' a v → Q v H') : tE K X w0 H0 E m σ H Q :=
  ⟨w, st, env, hE, hW, by rw [e]; exact fun w' H' x d v r => k w' H' v x d r⟩
theorem tT_ok {m : Env → M Bool} {env : Env} {σ : L2.St} {a : Bool} {st' : Sto} {Q : Bool → Hp → Prop} (hE : EnvOk K w0 H0 env w σ H) (hW : Wd K st w H) (e : m env st = .ok a st') (k : ∀ w' H', Ext w H w' H' → Wd K st' w' H' → Q a H') : tT K X w0 H0 E m σ H Q :=
  ⟨w, st, env, hE, hW, by rw [e]; exact fun w' H' x d => k w' H' x d⟩
/-- runs in a row -/
theorem bind_ok {α β : Type} {m : M α} {f : α → M β} {st st' : Sto} {b : β} (h : M.bind m f st = .ok b st') : ∃ a s1, m st = .ok a s1 ∧ f a s1 = .ok b st' := by
  unfold M.bind at h
  cases q : m st with
  | ok a s1 => rw [q] at h; exact ⟨a, s1, rfl, h⟩
  | exc c p s1 => rw [q] at h; cases h
  | bad => rw [q] at h; cases h
theorem lift_ok {α : Type} {o : Option α} {st st' : Sto} {b : α} (h : M.lift o st = .ok b st') : o = some b ∧ st' = st := by
  cases o with
  | none => cases h
  | some a => cases h; exact ⟨rfl, rfl⟩
theorem need_ok {β : Type} {x : D} {f : PyData → M β} {st st' : Sto} {b : β} (h : need x f st = .ok b st') : ∃ p, x = .d p ∧ f p st = .ok b st' := by
  cases x with
  | d p => exact ⟨p, rfl, h⟩
  | _ => cases h
theorem calm_ok {α : Type} {m : M α} {st : Sto} {k : α → Sto → Wo → Hp → Prop} (h : outX K X E w H (M.calm m st) k) : ∃ a st', m st = .ok a st' ∧ ∀ w' H', Ext w H w' H' → Wd K st' w' H' → k a st' w' H' := by
  unfold M.calm at h
  cases q : m st with
  | ok a s1 => rw [q] at h; exact ⟨a, s1, rfl, h⟩
  | exc c p s1 => rw [q] at h; exact h.elim
  | bad => rw [q] at h; exact h.elim

/-! ### an address that no datum leans on -/
theorem hide_poke {B : Addr → Prop} {D : Addr} {o : HO} (h : B D) : hide B (upd H D o) = hide B H := by
  funext a
  unfold hide
  by_cases e : B a
  · simp [e]
  · simp [e]
    exact upd_ne fun z => e (z ▸ h)
theorem Ext.poke {D : Addr} {o : HO} (e : Ext w H w' H') (hD : H D = none) : Ext w H w' (upd H' D o) := by
  refine ⟨e.mu, fun a u h hn => ?_, fun a h => ?_, e.up, e.new⟩
  · rw [upd_ne (ne_of_none h hD)]
    exact e.keep a u h hn
  · by_cases z : a = D
    · rw [z, upd_same]; simp
    · rw [upd_ne z]; exact e.dom a h
theorem Wd.poke {D : Addr} {o : HO} (d : Wd K st w H) (hB : w.B D) (hm : D ∉ w.μ) : Wd K st w (upd H D o) := by
  refine ⟨d.nd, d.len, d.sub, fun a h => ?_, fun n ob h => ?_⟩
  · by_cases z : a = D
    · rw [z, upd_same]; simp
    · rw [upd_ne z]; exact d.dom a h
  · obtain ⟨a, h1, h2⟩ := d.obs n ob h
    have ne : a ≠ D := fun z => hm (z ▸ List.mem_of_getElem? h1)
    refine ⟨a, h1, ?_⟩
    cases ob with
    | lst xs =>
      obtain ⟨vs, e, r⟩ := h2
      refine ⟨vs, by rw [upd_ne ne]; exact e, reps_mono ⟨List.prefix_rfl, ?_⟩ r⟩
      rw [hide_poke hB]
      exact Same.refl _
/-- the world with one address more that data may not lean on -/
def Wo.hold (w : Wo) (D : Addr) : Wo := ⟨w.μ, fun a => w.B a ∨ a = D⟩
def Wo.free (w : Wo) (D : Addr) : Wo := ⟨w.μ, fun a => w.B a ∧ a ≠ D⟩
theorem Ext.hold {D : Addr} {o : HO} (hD : H D = none) : Ext w H (w.hold D) (upd H D o) := by
  refine ⟨⟨[], by simp [Wo.hold], by simp⟩, fun a u h _ => by rw [upd_ne (ne_of_none h hD)]; exact h, fun a h => ?_, fun a h => .inl h, fun a h => ?_⟩
  · by_cases z : a = D
    · rw [z, upd_same]; simp
    · rw [upd_ne z]; exact h
  · rcases h with h | h
    · exact .inl h
    · exact .inr (h ▸ hD)
theorem Wd.go {w1 : Wo} {H1 : Hp} (d : Wd K st w H) (e : Ext w H w1 H1) (hμ : w1.μ = w.μ) (hk : ∀ a ∈ w.μ, H1 a = H a) (hd : ∀ a, w1.B a → H1 a ≠ none) : Wd K st w1 H1 := by
  have hx := e.hx d
  refine ⟨by rw [hμ]; exact d.nd, by rw [hμ]; exact d.len, fun a h => e.up a (d.sub a (hμ ▸ h)), hd, fun n ob h => ?_⟩
  obtain ⟨a, h1, h2⟩ := d.obs n ob h
  refine ⟨a, by rw [hμ]; exact h1, ?_⟩
  cases ob with
  | lst xs =>
    obtain ⟨vs, e, r⟩ := h2
    exact ⟨vs, by rw [hk a (List.mem_of_getElem? h1)]; exact e, reps_mono hx r⟩
theorem Wd.hold {D : Addr} {o : HO} (d : Wd K st w H) (hD : H D = none) : Wd K st (w.hold D) (upd H D o) := by
  refine d.go (Ext.hold hD) rfl (fun a h => upd_ne fun z => ?_) fun a h => ?_
  · exact d.dom a (d.sub a h) (z ▸ hD)
  · rcases h with h | h
    · by_cases z : a = D
      · rw [z, upd_same]; simp
      · rw [upd_ne z]; exact d.dom a h
    · rw [h, upd_same]; simp
theorem hx_free {D : Addr} : HX w H (w.free D) H := ⟨List.prefix_rfl, fun a o h => by
  obtain ⟨h1, h2⟩ := hide_some.mp h
  exact hide_some.mpr ⟨fun z => h1 z.1, h2⟩⟩
theorem Wd.free {D : Addr} (d : Wd K st w H) (hm : D ∉ w.μ) : Wd K st (w.free D) H := by
  refine ⟨d.nd, d.len, fun a h => ⟨d.sub a h, fun z => hm (z ▸ h)⟩, fun a h => d.dom a h.1, fun n ob h => ?_⟩
  obtain ⟨a, h1, h2⟩ := d.obs n ob h
  refine ⟨a, h1, ?_⟩
  cases ob with
  | lst xs =>
    obtain ⟨vs, e, r⟩ := h2
    exact ⟨vs, e, reps_mono hx_free r⟩
theorem Ext.free {D : Addr} (e : Ext w H w' H') (d : Wd K st w H) (hD : H D = none) : Ext w H (w'.free D) H' :=
  ⟨e.mu, e.keep, e.dom, fun a h => ⟨e.up a h, fun z => d.dom a h (z ▸ hD)⟩, fun a h => e.new a h.1⟩
theorem Ext.notIn {D : Addr} (e : Ext w H w' H') (h : H D ≠ none) (hm : D ∉ w.μ) : D ∉ w'.μ := by
  obtain ⟨ν, e1, f1⟩ := e.mu
  rw [e1]
  intro z
  rcases List.mem_append.mp z with z | z
  · exact hm z
  · exact h (f1 D z)
end

/-! ### what is walked -/
structure Walk (K : PySem.W.Frag) (J : L2.It) (items : List D) (w : Wo) (H : Hp) : Prop where
  go : ∀ (w2 : Wo) (H2 : Hp) (i : Nat) (x : D), HX w H w2 H2 → (∀ a, w2.B a → H2 a ≠ none) → items[i]? = some x → J.go i H2 ∧ ∀ v H3, J.yld i H2 v H3 → Same H2 H3 ∧ Rep K w2 H3 x v
  stop : ∀ (w2 : Wo) (H2 : Hp), HX w H w2 H2 → J.stop items.length H2
def tI (K : PySem.W.Frag) (X : XR) (w0 : Wo) (H0 : Hp) (E : XK) (m : Env → M (List D)) : TI := fun σ H R => ∃ (w : Wo) (st : Sto) (env : Env), EnvOk K w0 H0 env w σ H ∧ Wd K st w H ∧ outX K X E w H (m env st) fun items _ w' H' => ∀ J, Walk K J items w' H' → R J H'
theorem PI.imp {Y : Cx} {tg e : Expr} {t t' : TI} (h : PI Y tg e t) (i : ∀ σ H R, t' σ H R → t σ H R) : PI Y tg e t' := ⟨fun pins s σ H R I q => h.run pins s σ H R I (i σ H R q)⟩
section
variable {K : PySem.W.Frag} {w : Wo} {H : Hp}
theorem get_map {ps : List PyData} {i : Nat} {x : D} (h : (ps.map D.d)[i]? = some x) : ∃ p, ps[i]? = some p ∧ x = .d p := by
  rw [List.getElem?_map] at h
  obtain ⟨p, h1, h2⟩ := Option.map_eq_some_iff.mp h
  exact ⟨p, h1, h2.symm⟩
theorem walk_list {a : Addr} {vs : List V} {ps : List PyData} (h1 : hide w.B H a = some (.lst vs)) (h2 : DqAll K (hide w.B H) vs ps) : Walk K (Itl K a) (ps.map D.d) w H := by
  refine ⟨fun w2 H2 i x hx hw hi => ?_, fun w2 H2 hx => ?_⟩
  · obtain ⟨p, e1, rfl⟩ := get_map hi
    obtain ⟨u, e2, e3⟩ := h2.get e1
    have q : SqL K H2 a vs := .inl (.inl (hide_sub _ _ (hx.hid _ _ h1)))
    refine ⟨⟨vs, u, q, e2⟩, fun v H3 y => ?_⟩
    obtain ⟨rfl, y⟩ := y
    have e4 := y vs q
    rw [e2] at e4
    cases e4
    exact ⟨Same.refl _, dp_mono hx.hid e3⟩
  · exact ⟨vs, .inl (.inl (hide_sub _ _ (hx.hid _ _ h1))), by rw [List.length_map, h2.length]; exact Nat.le_refl _⟩
theorem walk_tup {a : Addr} {vs : List V} {ps : List PyData} (h1 : SqT K (hide w.B H) a vs) (h2 : DqAll K (hide w.B H) vs ps) : Walk K (Itt K a) (ps.map D.d) w H := by
  refine ⟨fun w2 H2 i x hx hw hi => ?_, fun w2 H2 hx => ?_⟩
  · obtain ⟨p, e1, rfl⟩ := get_map hi
    obtain ⟨u, e2, e3⟩ := h2.get e1
    have q : SqT K H2 a vs := seqT_mono hide_sub (seqT_mono hx.hid h1)
    refine ⟨⟨vs, u, q, e2⟩, fun v H3 y => ?_⟩
    obtain ⟨rfl, y⟩ := y
    have e4 := y vs q
    rw [e2] at e4
    cases e4
    exact ⟨Same.refl _, dp_mono hx.hid e3⟩
  · exact ⟨vs, seqT_mono hide_sub (seqT_mono hx.hid h1), by rw [List.length_map, h2.length]; exact Nat.le_refl _⟩
theorem walk_rng (lo : Int) (n : Nat) : Walk K (Itr lo n) (rangeL lo n) w H := by
  refine ⟨fun w2 H2 i x hx hw hi => ?_, fun w2 H2 hx => ?_⟩
  · unfold rangeL at hi
    rw [List.getElem?_map] at hi
    obtain ⟨k, h1, h2⟩ := Option.map_eq_some_iff.mp hi
    obtain ⟨l, e⟩ := List.getElem?_eq_some_iff.mp h1
    simp at l e
    subst e
    refine ⟨l, fun v H3 y => ?_⟩
    obtain ⟨rfl, rfl⟩ := y
    refine ⟨Same.refl _, ?_⟩
    rw [← h2]
    exact Dq.int _
  · show n ≤ (rangeL lo n).length
    simp [rangeL]
theorem pair_rep {T : Addr} {H2 : Hp} {w2 : Wo} {x y : V} {p q : PyData} (dom : ∀ a, w2.B a → H2 a ≠ none) (nT : H2 T = none) (h1 : Dq K (hide w2.B H2) x p) (h2 : Dq K (hide w2.B H2) y q) :
    Same H2 (upd H2 T (.tup [x, y])) ∧ Rep K w2 (upd H2 T (.tup [x, y])) (tup [p, q]) (.ref T) := by
  refine ⟨same_new nT, gives_tup (K := K) (B := w2.B) (Q := fun v H' => Rep K w2 H' (tup [p, q]) v) dom (fun v H' _ d => d) (.cons h1 (.cons h2 .nil)) nT⟩
theorem zipL_get : ∀ {ps qs : List PyData} {i : Nat} {x : D}, (zipL ps qs)[i]? = some x → ∃ p q, ps[i]? = some p ∧ qs[i]? = some q ∧ x = tup [p, q]
  | [], _, i, x, h => by simp [zipL] at h
  | _ :: _, [], i, x, h => by simp [zipL] at h
  | p :: ps, q :: qs, 0, x, h => by
    simp [zipL] at h
    exact ⟨p, q, rfl, rfl, h.symm⟩
  | p :: ps, q :: qs, i + 1, x, h => by
    simp [zipL] at h
    obtain ⟨a, b, h1, h2, h3⟩ := zipL_get h
    exact ⟨a, b, by simpa using h1, by simpa using h2, h3⟩
theorem zipL_len : ∀ (ps qs : List PyData), (zipL ps qs).length = min ps.length qs.length
  | [], _ => by simp [zipL]
  | _ :: _, [] => by simp [zipL]
  | p :: ps, q :: qs => by simp [zipL, zipL_len ps qs]
theorem enumL_get : ∀ {ps : List PyData} {k i : Nat} {x : D}, (enumL k ps)[i]? = some x → ∃ p, ps[i]? = some p ∧ x = tup [.int ((k + i : Nat) : Int), p]
  | [], k, i, x, h => by simp [enumL] at h
  | p :: ps, k, 0, x, h => by
    simp [enumL] at h
    exact ⟨p, rfl, h.symm⟩
  | p :: ps, k, i + 1, x, h => by
    simp [enumL] at h
    obtain ⟨q, h1, h2⟩ := enumL_get h
    refine ⟨q, by simpa using h1, ?_⟩
    rw [h2, show k + 1 + i = k + (i + 1) by omega]
theorem enumL_len : ∀ (k : Nat) (ps : List PyData), (enumL k ps).length = ps.length
  | _, [] => rfl
  | k, p :: ps => by simp [enumL, enumL_len (k + 1) ps]
theorem walk_zip {a b : Addr} {vs us : List V} {ps qs : List PyData} (h1 : hide w.B H a = some (.lst vs)) (h2 : DqAll K (hide w.B H) vs ps) (h3 : hide w.B H b = some (.lst us)) (h4 : DqAll K (hide w.B H) us qs) : Walk K (Itz K a b) (zipL ps qs) w H := by
  refine ⟨fun w2 H2 i x hx hw hi => ?_, fun w2 H2 hx => ?_⟩
  · obtain ⟨p, q, e1, e2, rfl⟩ := zipL_get hi
    obtain ⟨u, e3, e4⟩ := h2.get e1
    obtain ⟨t, e5, e6⟩ := h4.get e2
    have q1 : SqL K H2 a vs := .inl (.inl (hide_sub _ _ (hx.hid _ _ h1)))
    have q2 : SqL K H2 b us := .inl (.inl (hide_sub _ _ (hx.hid _ _ h3)))
    refine ⟨⟨vs, us, u, t, q1, q2, e3, e5⟩, fun v H3 y => ?_⟩
    obtain ⟨T, x, y, rfl, nT, rfl, f1, f2⟩ := y
    have ex := f1 vs q1
    have ey := f2 us q2
    rw [e3] at ex; cases ex
    rw [e5] at ey; cases ey
    exact pair_rep hw nT (dp_mono hx.hid e4) (dp_mono hx.hid e6)
  · refine ⟨vs, us, .inl (.inl (hide_sub _ _ (hx.hid _ _ h1))), .inl (.inl (hide_sub _ _ (hx.hid _ _ h3))), ?_⟩
    rw [zipL_len, h2.length, h4.length]
    omega
theorem walk_zipT {a b : Addr} {vs us : List V} {ps qs : List PyData} (h1 : SqT K (hide w.B H) a vs) (h2 : DqAll K (hide w.B H) vs ps) (h3 : SqT K (hide w.B H) b us) (h4 : DqAll K (hide w.B H) us qs) : Walk K (RZ.ItzT K a b) (zipL ps qs) w H := by
  refine ⟨fun w2 H2 i x hx hw hi => ?_, fun w2 H2 hx => ?_⟩
  · obtain ⟨p, q, e1, e2, rfl⟩ := zipL_get hi
    obtain ⟨u, e3, e4⟩ := h2.get e1
    obtain ⟨t, e5, e6⟩ := h4.get e2
    have q1 : SqT K H2 a vs := seqT_mono hide_sub (seqT_mono hx.hid h1)
    have q2 : SqT K H2 b us := seqT_mono hide_sub (seqT_mono hx.hid h3)
    refine ⟨⟨vs, us, u, t, q1, q2, e3, e5⟩, fun v H3 y => ?_⟩
    obtain ⟨T, x, y, rfl, nT, rfl, f1, f2⟩ := y
    have ex := f1 vs q1
    have ey := f2 us q2
    rw [e3] at ex; cases ex
    rw [e5] at ey; cases ey
    exact pair_rep hw nT (dp_mono hx.hid e4) (dp_mono hx.hid e6)
  · refine ⟨vs, us, seqT_mono hide_sub (seqT_mono hx.hid h1), seqT_mono hide_sub (seqT_mono hx.hid h3), ?_⟩
    rw [zipL_len, h2.length, h4.length]
    omega
theorem walk_enum {a : Addr} {vs : List V} {ps : List PyData} (h1 : hide w.B H a = some (.lst vs)) (h2 : DqAll K (hide w.B H) vs ps) : Walk K (Ite K a) (enumL 0 ps) w H := by
  refine ⟨fun w2 H2 i x hx hw hi => ?_, fun w2 H2 hx => ?_⟩
  · obtain ⟨p, e1, rfl⟩ := enumL_get hi
    obtain ⟨u, e3, e4⟩ := h2.get e1
    have q1 : SqL K H2 a vs := .inl (.inl (hide_sub _ _ (hx.hid _ _ h1)))
    refine ⟨⟨vs, u, q1, e3⟩, fun v H3 y => ?_⟩
    obtain ⟨T, x, rfl, nT, rfl, f1⟩ := y
    have ex := f1 vs q1
    rw [e3] at ex; cases ex
    rw [Nat.zero_add]
    exact pair_rep hw nT (.int _) (dp_mono hx.hid e4)
  · refine ⟨vs, .inl (.inl (hide_sub _ _ (hx.hid _ _ h1))), ?_⟩
    rw [enumL_len, h2.length]
    exact Nat.le_refl _
theorem walk_enumT {a : Addr} {vs : List V} {ps : List PyData} (h1 : SqT K (hide w.B H) a vs) (h2 : DqAll K (hide w.B H) vs ps) : Walk K (IteT K a) (enumL 0 ps) w H := by
  refine ⟨fun w2 H2 i x hx hw hi => ?_, fun w2 H2 hx => ?_⟩
  · obtain ⟨p, e1, rfl⟩ := enumL_get hi
    obtain ⟨u, e3, e4⟩ := h2.get e1
    have q1 : SqT K H2 a vs := seqT_mono hide_sub (seqT_mono hx.hid h1)
    refine ⟨⟨vs, u, q1, e3⟩, fun v H3 y => ?_⟩
    obtain ⟨T, x, rfl, nT, rfl, f1⟩ := y
    have ex := f1 vs q1
    rw [e3] at ex; cases ex
    rw [Nat.zero_add]
    exact pair_rep hw nT (.int _) (dp_mono hx.hid e4)
  · exact ⟨vs, seqT_mono hide_sub (seqT_mono hx.hid h1), by rw [enumL_len, h2.length]⟩
theorem walk_rng3 (lo c : Int) (n : Nat) : Walk K (Itc lo c n) (range3L lo c n) w H := by
  refine ⟨fun w2 H2 i x hx hw hi => ?_, fun w2 H2 hx => ?_⟩
  · unfold range3L at hi
    rw [List.getElem?_map] at hi
    obtain ⟨k, h1, h2⟩ := Option.map_eq_some_iff.mp hi
    obtain ⟨l, e⟩ := List.getElem?_eq_some_iff.mp h1
    simp at l e
    subst e
    refine ⟨l, fun v H3 y => ?_⟩
    obtain ⟨rfl, rfl⟩ := y
    refine ⟨Same.refl _, ?_⟩
    rw [← h2]
    exact Dq.int _
  · show n ≤ (range3L lo c n).length
    simp [range3L]
theorem Walk.mono {J : L2.It} {items : List D} {w1 : Wo} {H1 : Hp} (h : Walk K J items w H) (e : HX w H w1 H1) : Walk K J items w1 H1 :=
  ⟨fun w2 H2 i x hx => h.go w2 H2 i x (e.trans hx), fun w2 H2 hx => h.stop w2 H2 (e.trans hx)⟩
end

/-! ### as Ext, but for one list that grows -/
structure ExtD (D : Addr) (w : Wo) (H : Hp) (w' : Wo) (H' : Hp) : Prop where
  mu : ∃ ν, w'.μ = w.μ ++ ν ∧ ∀ a ∈ ν, H a = none
  keep : ∀ a o, H a = some o → a ∉ w.μ → a ≠ D → H' a = some o
  dom : ∀ a, H a ≠ none → H' a ≠ none
  up : ∀ a, w.B a → w'.B a
  new : ∀ a, w'.B a → w.B a ∨ H a = none
section
variable {K : PySem.W.Frag} {w0 w w' w1 w2 : Wo} {H0 H H' H1 H2 : Hp} {st : Sto} {D : Addr} {env : Env} {σ : L2.St}
theorem ExtD.refl : ExtD D w H w H := ⟨⟨[], by simp, by simp⟩, fun _ _ e _ _ => e, fun _ h => h, fun _ h => h, fun _ h => .inl h⟩
theorem ExtD.of (e : Ext w H w' H') : ExtD D w H w' H' := ⟨e.mu, fun a o h n _ => e.keep a o h n, e.dom, e.up, e.new⟩
theorem ExtD.trans (a : ExtD D w H w1 H1) (b : ExtD D w1 H1 w2 H2) : ExtD D w H w2 H2 := by
  obtain ⟨ν, e1, f1⟩ := a.mu
  obtain ⟨ν2, e2, f2⟩ := b.mu
  have dn : ∀ x, H1 x = none → H x = none := fun x hx => by
    cases q : H x with
    | none => rfl
    | some o => exact absurd hx (a.dom x (by rw [q]; simp))
  refine ⟨⟨ν ++ ν2, by rw [e2, e1, List.append_assoc], fun x hx => ?_⟩, fun x o h hn hD => ?_, fun x h => b.dom x (a.dom x h), fun x h => b.up x (a.up x h), fun x h => ?_⟩
  · rcases List.mem_append.mp hx with h | h
    · exact f1 x h
    · exact dn x (f2 x h)
  · refine b.keep x o (a.keep x o h hn hD) ?_ hD
    rw [e1]
    intro hm
    rcases List.mem_append.mp hm with q | q
    · exact hn q
    · rw [f1 x q] at h; cases h
  · rcases b.new x h with q | q
    · exact a.new x q
    · exact .inr (dn x q)
theorem ExtD.poke {o : HO} (e : ExtD D w H w' H') : ExtD D w H w' (upd H' D o) := by
  refine ⟨e.mu, fun a u h hn hD => by rw [upd_ne hD]; exact e.keep a u h hn hD, fun a h => ?_, e.up, e.new⟩
  by_cases z : a = D
  · rw [z, upd_same]; simp
  · rw [upd_ne z]; exact e.dom a h
theorem ExtD.hx (a : ExtD D w H w' H') (d : Wd K st w H) (hB : w.B D) : HX w H w' H' := by
  obtain ⟨ν, e1, f1⟩ := a.mu
  refine ⟨⟨ν, e1.symm⟩, fun x o h => ?_⟩
  obtain ⟨h1, h2⟩ := hide_some.mp h
  refine hide_some.mpr ⟨fun hb => ?_, a.keep x o h2 (fun hm => h1 (d.sub x hm)) fun z => h1 (z ▸ hB)⟩
  rcases a.new x hb with q | q
  · exact h1 q
  · rw [q] at h2; cases h2
theorem ExtD.notIn {a : Addr} (e : ExtD D w H w' H') (h : H a ≠ none) (hm : a ∉ w.μ) : a ∉ w'.μ := by
  obtain ⟨ν, e1, f1⟩ := e.mu
  rw [e1]
  intro z
  rcases List.mem_append.mp z with z | z
  · exact hm z
  · exact h (f1 a z)
/-- no list of the frame's own stands at D -/
def NoD (env : Env) (σ : L2.St) (D : Addr) : Prop := ∀ (i : Nat) (ps : List PyData), env[i]? = some (.own ps) → σ[i]? ≠ some (some (.ref D))
theorem EnvOk.goD (h : EnvOk K w0 H0 env w σ H) (d : Wd K st w H) (hB : w.B D) (h0 : H0 D = none) (no : NoD env σ D) (e : ExtD D w H w' H') : EnvOk K w0 H0 env w' σ H' := by
  have hx := e.hx d hB
  have hx0 : Ext w0 H0 w' H' := by
    obtain ⟨ν, e1, f1⟩ := h.ext.mu
    obtain ⟨ν2, e2, f2⟩ := e.mu
    have dn : ∀ x, H x = none → H0 x = none := fun x hx => by
      cases q : H0 x with
      | none => rfl
      | some o => exact absurd hx (h.ext.dom x (by rw [q]; simp))
    refine ⟨⟨ν ++ ν2, by rw [e2, e1, List.append_assoc], fun x hx => ?_⟩, fun x o q hn => ?_, fun x q => e.dom x (h.ext.dom x q), fun x q => e.up x (h.ext.up x q), fun x q => ?_⟩
    · rcases List.mem_append.mp hx with q | q
      · exact f1 x q
      · exact dn x (f2 x q)
    · refine e.keep x o (h.ext.keep x o q hn) ?_ fun z => by rw [z, h0] at q; cases q
      rw [e1]
      intro hm
      rcases List.mem_append.mp hm with z | z
      · exact hn z
      · rw [f1 x z] at q; cases q
    · rcases e.new x q with z | z
      · exact h.ext.new x z
      · exact .inr (dn x z)
  refine ⟨hx0, h.len, fun i x q => ?_, fun i ps q => ?_, h.apart⟩
  · obtain ⟨v, h1, h2⟩ := h.val i x q
    exact ⟨v, h1, rep_mono hx h2⟩
  · obtain ⟨a, vs, h1, h2, h3, h4, h5, h6⟩ := h.own i ps q
    refine ⟨a, vs, h1, e.up a h2, e.notIn (by rw [h5]; simp) h3, h4, e.keep a _ h5 h3 fun z => no i ps q (by rw [h1, z]), dpAll_mono hx.hid h6⟩
theorem NoD.of (h : EnvOk K w0 H0 env w σ H) (hD : H D = none) : NoD env σ D := fun i ps q z => by
  obtain ⟨a, vs, h1, _, _, _, h5, _⟩ := h.own i ps q
  rw [h1] at z
  cases z
  rw [hD] at h5
  cases h5
theorem NoD.wiped (h : NoD env σ D) (vs : List Nat) : NoD (wipeE env vs) (wipe σ vs) D := fun i ps q => by
  rw [wipeE_get] at q
  split at q
  · cases q
  · rw [wipe_get]
    split
    · simp
    · exact h i ps q
mutual
theorem T.bind_own : ∀ (t : T) (x : Fb.D) (env env' : Env), t.bind x env = some env' → ∀ (i : Nat) (ps : List PyData), env'[i]? = some (.own ps) → i ∉ t.slots ∧ env[i]? = some (.own ps)
  | .nm j, x, env, env', h, i, ps, q => by
    unfold T.bind at h
    split at h
    · cases h
      by_cases e : j = i
      · subst e
        rw [List.getElem?_set_self (by assumption)] at q
        cases q
      · rw [List.getElem?_set_ne e] at q
        exact ⟨by simp [T.slots]; exact fun z => e z.symm, q⟩
    · cases h
  | .tp ts, x, env, env', h, i, ps, q => by
    cases x with
    | d p =>
      cases p with
      | tuple xs =>
        simp only [T.bind] at h
        simp only [T.slots]
        exact Ts.bind_own ts _ env env' h i ps q
      | _ => simp [T.bind] at h
    | _ => simp [T.bind] at h
theorem Ts.bind_own : ∀ (ts : Ts) (xs : List Fb.D) (env env' : Env), ts.bind xs env = some env' → ∀ (i : Nat) (ps : List PyData), env'[i]? = some (.own ps) → i ∉ ts.slots ∧ env[i]? = some (.own ps)
  | .nil, [], env, env', h, i, ps, q => by
    simp only [Ts.bind] at h
    cases h
    exact ⟨by simp [Ts.slots], q⟩
  | .cons t ts, x :: xs, env, env', h, i, ps, q => by
    simp only [Ts.bind] at h
    obtain ⟨e1, h1, h2⟩ := Option.bind_eq_some_iff.mp h
    obtain ⟨a1, a2⟩ := Ts.bind_own ts xs e1 env' h2 i ps q
    obtain ⟨b1, b2⟩ := T.bind_own t x env e1 h1 i ps a2
    exact ⟨by simp [Ts.slots, a1, b1], b2⟩
  | .nil, _ :: _, _, _, h, _, _, _ => by simp [Ts.bind] at h
  | .cons _ _, [], _, _, h, _, _, _ => by simp [Ts.bind] at h
end
theorem NoD.bind {t : T} {x : Fb.D} {env' : Env} {σ' : L2.St} (h : NoD env σ D) (b : t.bind x env = some env') (a : ∀ i, i ∉ t.slots → σ'[i]? = σ[i]?) : NoD env' σ' D := fun i ps q => by
  obtain ⟨h1, h2⟩ := T.bind_own t x env env' b i ps q
  rw [a i h1]
  exact h i ps h2
end
end Fb

set_option Elab.async false
set_option linter.all false
set_option maxRecDepth 100000
set_option maxHeartbeats 2000000
/-! the check of a program's text against the small language; what it is worth: expressions -/
namespace Fb
open PySem PySem.Spec PyProof.Rows L2

/-! ### a def's promise -/
def spF (K : PySem.W.Frag) (X : XR) (g : List D → M D) : Sp := fun vs H Q E => ∃ (w : Wo) (st : Sto) (ds : List D), Wd K st w H ∧ Reps K w H ds vs ∧ outX K X E w H (g ds st) fun x _ w' H' => ∀ v, Rep K w' H' x v → Q v H'
structure FnG (P : Program) (w : World) (K : PySem.W.Frag) (mg : Str → Option Value) (base : Heap) (k : Nat) (f : Addr) (fd : FuncData) (ps : List Str) (sp : Sp) : Prop where
  len : ∀ vs H Q E, sp vs H Q E → vs.length = ps.length
  run : ∀ (A : Around) (outer : List PySem.Env) (s : Shared) (H : Hp) (args : Args) (us : List Value) (vs : List V) (Q : VK) (E : XK), Room k A → A.guards = some [] → Env0 P w K mg base A outer s H → BindsTo s fd args (ps.zip us) → Vals vs us → sp vs H Q E →
    codeAny (model P w) A (.call (.ref f) args) (CR (L2.CX P w) outer P w H s Q E) s
section
variable {Y : Cx} {k : Nat} {f : Addr} {fd : FuncData} {ps : List Str} {sp : Sp} {E : XK}
theorem run_g {pins : List (Addr × Obj)} {σ : L2.St} {H : Hp} {s : Shared} {Q : VK} {us : List Value} {vs : List V} (F : FnG Y.prog Y.w Y.K Y.mg Y.base k f fd ps sp) (hr : Room k Y.A) (hg : Y.A.guards = some []) (hb : Binds Y.K fd ps []) (hx : Passes (L2.CX Y.prog Y.w) Y E)
    (I : Inv Y pins σ H s) (r : Vals vs us) (h : sp vs H Q E) : wpAny (model Y.prog Y.w) Y.A (call (.ref f) us) (EP Y pins σ Q) Y.xe s := by
  have l1 := F.len _ _ _ _ h
  have l2 := r.length
  have b := hb s us I.kIn (by simp; omega)
  rw [List.append_nil] at b
  have c := F.run Y.A Y.stack s H ⟨us, []⟩ us vs Q E hr hg I.env0 b r h
  refine wpAny_call (codeAny_mono c fun r s' hq => ?_)
  match r, hq with
  | .error e, hq => exact hx pins σ H s e s' I hq
  | .ok (.ret u), hq => exact I.after hq
  | .ok .next, hq => exact False.elim hq
  | .ok .brk, hq => exact False.elim hq
  | .ok .cont, hq => exact False.elim hq
theorem pe_g {x : Str} {p pos : Pos} {e : Expr} {es : List Expr} {t : TA} (F : FnG Y.prog Y.w Y.K Y.mg Y.base k f fd ps sp) (hr : Room k Y.A) (hgu : Y.A.guards = some []) (hg : Gl Y x) (hm : Y.mg x = some (.ref f)) (hk : PySem.W.keepIn Y.K (.ref f) = true) (hb : Binds Y.K fd ps []) (hx : Passes (L2.CX Y.prog Y.w) Y E)
    (ha : PA Y (e :: es) t) (hdb : (x == ("__debug__" : Str)) = false) (he : starEach (e :: es) Y.env = (false, eval e Y.env) :: starEach es Y.env) (hpl : (backTo pos (starEach es Y.env)).any (·.1) = false) :
    PE Y (.Call (.Name x p) (e :: es) [] pos) (fun σ H Q => t σ H fun vs H1 => sp vs H1 Q E) := by
  refine ⟨fun pins s σ H Q I h => wpAny_Call_Name_kw (ld_glob I hg hm ?_ hdb)⟩
  refine PySem.W.callWith_K (h₀ := Y.base) I.ok.mod.kin hk ?_ he hpl
  refine thn (ha.run pos pins s σ H _ I h) fun us s1 q => ?_
  obtain ⟨vs, H1, I1, r, q⟩ := q
  exact ⟨I1.kIn, run_g F hr hgu hb hx I1 r q⟩
theorem pe_g0 {x : Str} {p pos : Pos} (F : FnG Y.prog Y.w Y.K Y.mg Y.base k f fd ps sp) (hr : Room k Y.A) (hgu : Y.A.guards = some []) (hg : Gl Y x) (hm : Y.mg x = some (.ref f)) (hk : PySem.W.keepIn Y.K (.ref f) = true) (hb : Binds Y.K fd ps []) (hx : Passes (L2.CX Y.prog Y.w) Y E)
    (hdb : (x == ("__debug__" : Str)) = false) : PE Y (.Call (.Name x p) [] [] pos) (fun σ H Q => sp [] H Q E) := by
  refine ⟨fun pins s σ H Q I h => wpAny_Call_Name_kw (ld_glob I hg hm ?_ hdb)⟩
  exact PySem.W.callWith_K0 I.kIn hk (run_g (us := []) F hr hgu hb hx I .nil h)
end

theorem FnG.up {P : Program} {w : World} {K : PySem.W.Frag} {mg : Str → Option Value} {base : Heap} {k k' : Nat} {f : Addr} {fd : FuncData} {ps : List Str} {sp : Sp} (F : FnG P w K mg base k f fd ps sp) (h : k ≤ k') : FnG P w K mg base k' f fd ps sp :=
  ⟨F.len, fun A outer s H args us vs Q E hr => F.run A outer s H args us vs Q E (hr.mono h)⟩

/-! ### what is known of the program -/
structure Info where
  con : String → Option PyData
  exs : String → Bool
  ren : String → String
def bltNames : List String := ["len", "tuple", "list", "sum", "all", "any", "abs", "max", "min", "repr", "int", "bool", "str", "isinstance", "range", "zip", "enumerate", "sorted", "set", "dict"]
/-- an exception of the text's own class, made of a text -/
def xr (mg : Str → Option Value) : XR := fun c _ cls dx _ => ∃ C, mg (Str.ofString c) = some (.ref C) ∧ cls = .ref C ∧ dx = none
structure GOk (Γ : Info) (P : Program) (w : World) (K : PySem.W.Frag) (mg : Str → Option Value) (base : Heap) : Prop where
  con : ∀ (x : String) (p : PyData), Γ.con x = some p → ∃ (u : Value) (v : V), mg (Str.ofString (Γ.ren x)) = some u ∧ RelV v u ∧ ∀ H, Dq K H v p
  free : ∀ x ∈ bltNames, mg (Str.ofString x) = none
  exs : ∀ c, Γ.exs c = true → ∃ C, mg (Str.ofString c) = some (.ref C) ∧ PySem.W.excIn K C [.type "ValueError", .type "Exception", .type "BaseException", .type "object"] "ValueError.__new__" = true ∧ PySem.W.keepIn K (.ref C) = true ∧
    PySem.W.subIn K (.ref C) (.type "BaseException") = some true ∧ PySem.W.typeIn K (.ref C) = some (.type "type")
/-- the def that the text calls f does what g tells -/
def GoodAt (Γ : Info) (X : XR) (P : Program) (w : World) (K : PySem.W.Frag) (mg : Str → Option Value) (base : Heap) (k : Nat) (f : String) (g : List D → M D) : Prop :=
  ∃ (a : Addr) (fd : FuncData) (ps : List Str), FnG P w K mg base k a fd ps (spF K X g) ∧ mg (Str.ofString (Γ.ren f)) = some (.ref a) ∧ PySem.W.keepIn K (.ref a) = true ∧ Binds K fd ps []
/-- all that is called is as it says -/
abbrev Gd := String → (List D → M D) → Prop
mutual
def E.good (R : Gd) : E → Prop
  | .tup es => es.good R
  | .lst es => es.good R
  | .nref es => es.good R
  | .bin _ a b => a.good R ∧ b.good R
  | .neg a => a.good R
  | .not a => a.good R
  | .cmp _ a b => a.good R ∧ b.good R
  | .chn _ _ a b d => a.good R ∧ b.good R ∧ d.good R
  | .and a b => a.good R ∧ b.good R
  | .or a b => a.good R ∧ b.good R
  | .ife t a b => t.good R ∧ a.good R ∧ b.good R
  | .ix a i => a.good R ∧ i.good R
  | .cut a lo hi => a.good R ∧ lo.good R ∧ hi.good R
  | .rev a => a.good R
  | .lrg a b => a.good R ∧ b.good R
  | .call f g es => R f g ∧ es.good R
  | .blt _ es => es.good R
  | .isi a _ => a.good R
  | .lc _ g => g.good R
  | .oix _ e => e.good R
  | .oin _ e _ => e.good R
  | .var _ => True
  | .cst _ => True
  | .glo _ _ => True
  | .olen _ => True
def Es.good (R : Gd) : Es → Prop
  | .nil => True
  | .cons e es => e.good R ∧ es.good R
def Oe.good (R : Gd) : Oe → Prop
  | .no => True
  | .yes e => e.good R
def It.good (R : Gd) : It → Prop
  | .seq e => e.good R
  | .rng1 a => a.good R
  | .rng2 a b => a.good R ∧ b.good R
  | .rng3 a b c => a.good R ∧ b.good R ∧ c.good R
  | .zip a b => a.good R ∧ b.good R
  | .enum a => a.good R
def G.good (R : Gd) : Fb.G → Prop
  | .fin e => e.good R
  | .gen _ it _ c g => it.good R ∧ c.good R ∧ g.good R
end
mutual
def S.good (R : Gd) : S → Prop
  | .set _ e => e.good R
  | .par _ es => es.good R
  | .parO _ es _ => es.good R
  | .own _ e => e.good R
  | .frz _ => True
  | .app _ e => e.good R
  | .oset _ k e => k.good R ∧ e.good R
  | .rset o i e => o.good R ∧ i.good R ∧ e.good R
  | .expr e => e.good R
  | .ret e => e.good R
  | .retN => True
  | .ifs t a b => t.good R ∧ a.good R ∧ b.good R
  | .for_ it _ b => it.good R ∧ b.good R
  | .while_ t b => t.good R ∧ b.good R
  | .raise _ _ => True
def Ss.good (R : Gd) : Ss → Prop
  | .nil => True
  | .cons s ss => s.good R ∧ ss.good R
end
structure XOk (Γ : Info) (X : XR) (k : Nat) (Y : Cx) (E : XK) : Prop where
  g : GOk Γ Y.prog Y.w Y.K Y.mg Y.base
  calm : Y.calm = true
  nd : Y.N.Nodup
  room : Room (k + 1) Y.A
  gu : Y.A.guards = some []
  pass : Passes (L2.CX Y.prog Y.w) Y E
/-- what the context says of calls -/
abbrev XOk.G (Γ : Info) (X : XR) (k : Nat) (Y : Cx) : Gd := GoodAt Γ X Y.prog Y.w Y.K Y.mg Y.base k
theorem XOk.roomy {Γ : Info} {X : XR} {k : Nat} {Y : Cx} {E : XK} (h : XOk Γ X k Y E) : Roomy Y.A := ⟨by have := h.room.un; omega, h.gu⟩
theorem XOk.room0 {Γ : Info} {X : XR} {k : Nat} {Y : Cx} {E : XK} (h : XOk Γ X k Y E) : Room k Y.A := h.room.mono (Nat.le_succ k)
abbrev noE : XK := fun _ _ _ => False
theorem XOk.blk {Γ : Info} {X : XR} {k : Nat} {Y : Cx} {E : XK} (h : XOk Γ X k Y E) (s : Shared) (H : Hp) (scope : Scope) (cenv : PySem.Env) (fp : List Addr) : XOk Γ X k (Y.blk s H scope cenv fp) noE :=
  ⟨h.g, h.calm, h.nd, h.room, h.gu, fun _ _ _ _ _ _ _ c => by
    obtain ⟨_, _, _, _, _, _, _, _, _, _, _, _, z⟩ := c
    exact z.elim⟩

/-! ### the check -/
def visOk (sc : Scope) (x : Str) : Bool := (match sc.names.lookup x with
  | some .local => true
  | some .cell => true
  | some .free => true
  | _ => false) && (!(x == ("__debug__" : Str)) && !(x == ("__classdict__" : Str)))
def gloOk (sc : Scope) (x : Str) (n : String) : Bool := decide (x = Str.ofString n) && ((match sc.names.lookup x with
  | some .globalImplicit => true
  | _ => false) && (!(x == ("__debug__" : Str)) && !(x == ("__name__" : Str))))
def cstOk : PyData → Const → Bool
  | .none, .none => true
  | .bool b, .bool c => b == c
  | .int i, .int j => i == j
  | .str x, .str y => decide (x = y)
  | _, _ => false
mutual
def datEq : PyData → PyData → Bool
  | .none, .none => true
  | .bool b, .bool c => b == c
  | .int i, .int j => i == j
  | .str x, .str y => decide (x = y)
  | .tuple xs, .tuple ys => datEqs xs ys
  | .list xs, .list ys => datEqs xs ys
  | _, _ => false
def datEqs : List PyData → List PyData → Bool
  | [], [] => true
  | x :: xs, y :: ys => datEq x y && datEqs xs ys
  | _, _ => false
end
mutual
theorem datEq_ok : ∀ (x y : PyData), datEq x y = true → x = y
  | .none, y, h => by cases y <;> first | rfl | exact absurd h Bool.false_ne_true
  | .bool b, y, h => by cases y <;> first | (simp only [datEq, beq_iff_eq] at h; rw [h]) | exact absurd h Bool.false_ne_true
  | .int b, y, h => by cases y <;> first | (simp only [datEq, beq_iff_eq] at h; rw [h]) | exact absurd h Bool.false_ne_true
  | .str b, y, h => by cases y <;> first | (simp only [datEq, decide_eq_true_eq] at h; rw [h]) | exact absurd h Bool.false_ne_true
  | .tuple xs, y, h => by
    cases y <;> try (exact absurd h Bool.false_ne_true)
    simp only [datEq] at h
    rw [datEqs_ok xs _ h]
  | .list xs, y, h => by
    cases y <;> try (exact absurd h Bool.false_ne_true)
    simp only [datEq] at h
    rw [datEqs_ok xs _ h]
  | .dict _, y, h => by cases y <;> exact absurd h Bool.false_ne_true
theorem datEqs_ok : ∀ (x y : List PyData), datEqs x y = true → x = y
  | [], [], _ => rfl
  | x :: xs, y :: ys, h => by
    simp only [datEqs, Bool.and_eq_true] at h
    rw [datEq_ok x y h.1, datEqs_ok xs ys h.2]
  | [], _ :: _, h => absurd h Bool.false_ne_true
  | _ :: _, [], h => absurd h Bool.false_ne_true
end
def Cm.isIn : Cm → Bool
  | .in_ => true
  | .notin => true
  | _ => false
def minus1 : Expr → Bool
  | .UnaryOp .USub (.Constant (.int 1) _ _) _ => true
  | _ => false
def ownN (N : List Str) (own : List Nat) : List (Str × Nat) := own.map fun i => (N.getD i Str.empty, i)
def noSlice : Expr → Bool
  | .Slice _ _ _ _ => false
  | _ => true
def noSet : Expr → Bool
  | .Set _ _ _ => false
  | _ => true
section
variable (Γ : Info) (N : List Str)
mutual
def E.chk : E → Scope → (Str → Bool) → Expr → Bool
  | .var i, sc, _, .Name x _ => decide (N[i]? = some x) && visOk sc x
  | .cst p, _, _, .Constant c _ _ => cstOk p c
  | .glo n p, sc, _, .Name x _ => (match Γ.con n with | some q => datEq q p | none => false) && gloOk sc x (Γ.ren n)
  | .tup es, sc, fb, .Tuple xs _ _ => decide (xs.length ≤ 1000) && es.chk sc fb xs
  | .lst es, sc, fb, .List xs _ => decide (xs.length ≤ 1000) && es.chk sc fb xs
  | .nref es, sc, fb, .List xs _ => decide (xs.length ≤ 1000) && es.chk sc fb xs
  | .bin o a b, sc, fb, .BinOp x op y _ => decide (op = o.ast) && (a.chk sc fb x && b.chk sc fb y)
  | .neg a, sc, fb, .UnaryOp .USub x _ => a.chk sc fb x
  | .not a, sc, fb, .UnaryOp .Not x _ => a.chk sc fb x
  | .cmp c a b, sc, fb, .Compare x [op] [y] _ => decide (op = c.ast) && (noSet y && (a.chk sc fb x && b.chk sc fb y))
  | .chn c c' a b d, sc, fb, .Compare x [op, op'] [y, z] _ => decide (op = c.ast) && (decide (op' = c'.ast) && (noSet z && (a.chk sc fb x && (b.chk sc fb y && d.chk sc fb z))))
  | .and a b, sc, fb, .BoolOp .And (x :: y :: r) pos => a.chk sc fb x && (match r with
    | [] => b.chk sc fb y
    | _ => b.chk sc fb (.BoolOp .And (y :: r) pos))
  | .or a b, sc, fb, .BoolOp .Or (x :: y :: r) pos => a.chk sc fb x && (match r with
    | [] => b.chk sc fb y
    | _ => b.chk sc fb (.BoolOp .Or (y :: r) pos))
  | .ife t a b, sc, fb, .IfExp u x y _ => t.chk sc fb u && (a.chk sc fb x && b.chk sc fb y)
  | .ix a i, sc, fb, .Subscript x y _ => noSlice y && (a.chk sc fb x && i.chk sc fb y)
  | .cut a lo hi, sc, fb, .Subscript x (.Slice l h none _) _ => a.chk sc fb x && (lo.chk sc fb l && hi.chk sc fb h)
  | .rev a, sc, fb, .Subscript x (.Slice none none (some k) _) _ => minus1 k && a.chk sc fb x
  | .lrg a b, sc, fb, .Call (.Name n _) [.Call (.Name m _) [x, y] [] _] [] _ => gloOk sc n "list" && (gloOk sc m "range" && (plainE x && (plainE y && (a.chk sc fb x && b.chk sc fb y))))
  | .call f _ es, sc, fb, .Call (.Name x _) xs [] _ => gloOk sc x (Γ.ren f) && es.chk sc fb xs
  | .oix i e, sc, fb, .Subscript (.Name x _) y _ => noSlice y && (decide (N[i]? = some x) && (visOk sc x && e.chk sc fb y))
  | .oin c e i, sc, fb, .Compare y [op] [.Name x _] _ => (c.isIn && decide (op = c.ast)) && (decide (N[i]? = some x) && (visOk sc x && e.chk sc fb y))
  | .olen i, sc, _, .Call (.Name n _) [.Name x _] [] _ => gloOk sc n "len" && (decide (N[i]? = some x) && visOk sc x)
  | .blt f es, sc, fb, .Call (.Name x _) xs [] _ => !xs.isEmpty && (gloOk sc x f.name && es.chk sc fb xs)
  | .isi a t, sc, fb, .Call (.Name x _) [y, .Name z _] [] _ => gloOk sc x "isinstance" && (gloOk sc z t.name && (plainE y && a.chk sc fb y))
  | .lc own g, sc, fb, .ListComp elt gs scope _ => decide (own.Nodup) && (blkC N sc scope (ownN N own) && g.chk0 own sc fb (relS scope sc) (fun x => scope.names.lookup x == some .cell) elt gs)
  | _, _, _, _ => false
def Es.chk : Es → Scope → (Str → Bool) → List Expr → Bool
  | .nil, _, _, [] => true
  | .cons e es, sc, fb, x :: xs => plainE x && (e.chk sc fb x && es.chk sc fb xs)
  | _, _, _, _ => false
def Oe.chk : Oe → Scope → (Str → Bool) → Option Expr → Bool
  | .no, _, _, none => true
  | .yes e, sc, fb, some x => e.chk sc fb x
  | _, _, _, _ => false
def Oe.chkL : Oe → Scope → (Str → Bool) → List Expr → Bool
  | .no, _, _, [] => true
  | .yes e, sc, fb, [x] => e.chk sc fb x
  | _, _, _, _ => false
def It.chk : It → Scope → (Str → Bool) → Expr → Expr → Bool
  | .seq e, sc, fb, _, x => noSet x && e.chk sc fb x
  | .rng1 a, sc, fb, _, .Call (.Name n _) [x] [] _ => gloOk sc n "range" && (plainE x && a.chk sc fb x)
  | .rng2 a b, sc, fb, _, .Call (.Name n _) [x, y] [] _ => gloOk sc n "range" && (plainE x && (plainE y && (a.chk sc fb x && b.chk sc fb y)))
  | .rng3 a b c, sc, fb, _, .Call (.Name n _) [x, y, z] [] _ => gloOk sc n "range" && (plainE x && (plainE y && (plainE z && (a.chk sc fb x && (b.chk sc fb y && c.chk sc fb z)))))
  | .zip a b, sc, fb, .Tuple _ _ _, .Call (.Name n _) [x, y] [] _ => gloOk sc n "zip" && (plainE x && (plainE y && (a.chk sc fb x && b.chk sc fb y)))
  | .enum a, sc, fb, .Tuple _ _ _, .Call (.Name n _) [x] [] _ => gloOk sc n "enumerate" && (plainE x && a.chk sc fb x)
  | _, _, _, _, _ => false
/-- the first clause: its source is asked outside, all else within -/
def G.chk0 : G → List Nat → Scope → (Str → Bool) → Scope → (Str → Bool) → Expr → List Comprehension → Bool
  | .gen vs it t c g, own, sc, fb, si, fi, elt, ⟨tg, iter, ifs, z⟩ :: gs => (decide (vs = own) && (decide (z = 0) && noSet iter)) && (it.chk sc fb tg iter && (t.chk N si fi tg && (t.slots.all (vs.contains ·) && (c.chkL si fi ifs && g.chkR vs si fi elt gs))))
  | _, _, _, _, _, _, _, _ => false
def G.chkR : G → List Nat → Scope → (Str → Bool) → Expr → List Comprehension → Bool
  | .fin e, _, si, fi, elt, [] => e.chk si fi elt
  | .gen vs it t c g, us, si, fi, elt, ⟨tg, iter, ifs, z⟩ :: gs => (vs.all (us.contains ·) && (decide (z = 0) && noSet iter)) && (it.chk si fi tg iter && (t.chk N si fi tg && (t.slots.all (vs.contains ·) && (c.chkL si fi ifs && g.chkR vs si fi elt gs))))
  | _, _, _, _, _, _ => false
end
end
end Fb

set_option Elab.async false
set_option linter.all false
set_option maxRecDepth 100000
set_option maxHeartbeats 2000000
/-! readings of each form -/
namespace Fb
open PySem PySem.Spec PyProof.Rows L2
section
variable {K : PySem.W.Frag} {X : XR} {E : XK} {w0 w : Wo} {H0 H : Hp} {st : Sto} {env : Env} {σ : L2.St} {Q : VK} {β : Type}
theorem EnvOk.un (h : EnvOk K w0 H0 env w σ H) (vs : List Nat) : EnvOk K w0 H0 (wipeE env vs) w σ H := by
  have at_ : ∀ (i : Nat) (y : Sl), y ≠ .un → (wipeE env vs)[i]? = some y → env[i]? = some y := fun i y hy q => by
    rw [wipeE_get] at q
    split at q
    · cases q; exact absurd rfl hy
    · exact q
  exact ⟨h.ext, by rw [wipeE_length]; exact h.len, fun i x q => h.val i x (at_ i _ (fun z => by cases z) q), fun i ps q => h.own i ps (at_ i _ (fun z => by cases z) q), fun i j ps qs a q1 q2 q3 q4 => h.apart i j ps qs a (at_ i _ (fun z => by cases z) q1) (at_ j _ (fun z => by cases z) q2) q3 q4⟩
theorem one_read {ma : Env → M D} {f : PyData → M β} {k : β → Sto → Wo → Hp → Prop} {R : V → Hp → Prop} (hE : EnvOk K w0 H0 env w σ H) (hW : Wd K st w H) (h : outX K X E w H (M.bind (ma env) (fun x => need x f) st) k)
    (g : ∀ p st1 w1 H1 x, Ext w H w1 H1 → EnvOk K w0 H0 env w1 σ H1 → Wd K st1 w1 H1 → Dq K (hide w1.B H1) x p → outX K X E w1 H1 (f p st1) k → R x H1) : tE K X w0 H0 E ma σ H R :=
  tE_go hE hW h fun x st1 w1 H1 v e hE1 hW1 r q => by
    obtain ⟨p, rfl, q⟩ := outX_need q
    exact g p st1 w1 H1 v e hE1 hW1 r q
theorem two_read {ma mb : Env → M D} {f : PyData → PyData → M β} {k : β → Sto → Wo → Hp → Prop} {R : V → V → Hp → Prop} (hE : EnvOk K w0 H0 env w σ H) (hW : Wd K st w H)
    (h : outX K X E w H (M.bind (ma env) (fun x => M.bind (mb env) fun y => need x fun p => need y fun q => f p q) st) k)
    (g : ∀ p q st1 w1 H1 x y, Ext w H w1 H1 → EnvOk K w0 H0 env w1 σ H1 → Wd K st1 w1 H1 → Dq K (hide w1.B H1) x p → Dq K (hide w1.B H1) y q → outX K X E w1 H1 (f p q st1) k → R x y H1) :
    tE K X w0 H0 E ma σ H fun x H1 => tE K X w0 H0 E mb σ H1 fun y H2 => R x y H2 :=
  tE_go hE hW h fun x st1 w1 H1 v e hE1 hW1 r q => tE_go hE1 hW1 q fun y st2 w2 H2 u e2 hE2 hW2 r2 q => by
    obtain ⟨p, hp, q2⟩ := outX_need q
    obtain ⟨p2, hp2, q3⟩ := outX_need q2
    subst hp hp2
    exact g p p2 st2 w2 H2 v u (e.trans e2) hE2 hW2 (dp_mono (e2.hx hW1).hid r) r2 q3
/-- what is wanted at the end of an expression -/
abbrev fin (K : PySem.W.Frag) (Q : VK) : D → Sto → Wo → Hp → Prop := fun x _ w' H' => ∀ v, Rep K w' H' x v → Q v H'
theorem tup_read {m : Env → M (List D)} (hE : EnvOk K w0 H0 env w σ H) (hW : Wd K st w H) (hl : ∀ s s' xs, m env s = .ok xs s' → xs.length ≤ 1000) (h : outX K X E w H (M.bind (m env) (fun xs => M.lift ((datas xs).map tup)) st) (fin K Q)) : tTup (tA K X w0 H0 E m) σ H Q := by
  cases q : m env st with
  | ok xs st1 =>
    have hx := hl _ _ _ q
    unfold M.bind at h
    rw [q] at h
    refine ⟨w, st, env, hE, hW, ?_⟩
    rw [q]
    refine fun w1 H1 e1 d1 vs r => ⟨?_, fun p hp => ?_⟩
    · rw [reps_len r, sizeLine_eq]; omega
    · obtain ⟨a, ea, h⟩ := outX_lift (outX_mono e1 h)
      obtain ⟨ps, e2, rfl⟩ := Option.map_eq_some_iff.mp ea
      exact gives_tup d1.dom (outX_gives d1 h) (dpAll_of r e2) hp
  | exc c p st1 =>
    unfold M.bind at h
    rw [q] at h
    exact ⟨w, st, env, hE, hW, by rw [q]; exact h⟩
  | bad =>
    unfold M.bind at h
    rw [q] at h
    exact h.elim
theorem lst_read {m : Env → M (List D)} (hE : EnvOk K w0 H0 env w σ H) (hW : Wd K st w H) (hl : ∀ s s' xs, m env s = .ok xs s' → xs.length ≤ 1000) (h : outX K X E w H (M.bind (m env) (fun xs => M.lift ((datas xs).map lst)) st) (fin K Q)) : tLst (tA K X w0 H0 E m) σ H Q := by
  cases q : m env st with
  | ok xs st1 =>
    have hx := hl _ _ _ q
    unfold M.bind at h
    rw [q] at h
    refine ⟨w, st, env, hE, hW, ?_⟩
    rw [q]
    refine fun w1 H1 e1 d1 vs r => ⟨?_, fun p hp => ?_⟩
    · rw [reps_len r, sizeLine_eq]; omega
    · obtain ⟨a, ea, h⟩ := outX_lift (outX_mono e1 h)
      obtain ⟨ps, e2, rfl⟩ := Option.map_eq_some_iff.mp ea
      exact gives_lst d1.dom (outX_gives d1 h) (dpAll_of r e2) hp
  | exc c p st1 =>
    unfold M.bind at h
    rw [q] at h
    exact ⟨w, st, env, hE, hW, by rw [q]; exact h⟩
  | bad =>
    unfold M.bind at h
    rw [q] at h
    exact h.elim
/-- a new object of the store -/
theorem ref_new {xs : List D} {vs : List V} {p : Addr} (d : Wd K st w H) (r : Reps K w H xs vs) (hp : H p = none) :
    Ext w H ⟨w.μ ++ [p], fun a => w.B a ∨ a = p⟩ (upd H p (.lst vs)) ∧ Wd K (st ++ [.lst xs]) ⟨w.μ ++ [p], fun a => w.B a ∨ a = p⟩ (upd H p (.lst vs)) := by
  have hn : p ∉ w.μ := fun h => d.dom p (d.sub p h) hp
  have e : Ext w H ⟨w.μ ++ [p], fun a => w.B a ∨ a = p⟩ (upd H p (.lst vs)) := by
    refine ⟨⟨[p], rfl, fun a h => by simp at h; rw [h]; exact hp⟩, fun a o h _ => by rw [upd_ne (ne_of_none h hp)]; exact h, fun a h => ?_, fun a h => .inl h, fun a h => ?_⟩
    · by_cases z : a = p
      · rw [z, upd_same]; simp
      · rw [upd_ne z]; exact h
    · rcases h with h | h
      · exact .inl h
      · exact .inr (h ▸ hp)
  have hx := e.hx d
  refine ⟨e, ⟨?_, by simp [d.len], fun a h => ?_, fun a h => ?_, fun n o h => ?_⟩⟩
  · show (w.μ ++ [p]).Nodup
    rw [List.nodup_append]
    exact ⟨d.nd, by simp, fun a ha b hb z => hn (by simp at hb; rw [← hb, ← z]; exact ha)⟩
  · rcases List.mem_append.mp h with h | h
    · exact .inl (d.sub a h)
    · exact .inr (by simpa using h)
  · rcases h with h | h
    · by_cases z : a = p
      · rw [z, upd_same]; simp
      · rw [upd_ne z]; exact d.dom a h
    · rw [h, upd_same]; simp
  · by_cases hl : n < st.length
    · rw [List.getElem?_append_left hl] at h
      obtain ⟨a, h1, h2⟩ := d.obs n o h
      have ne : a ≠ p := fun z => hn (z ▸ List.mem_of_getElem? h1)
      refine ⟨a, by show (w.μ ++ [p])[n]? = some a; rw [List.getElem?_append_left (by rw [d.len]; exact hl)]; exact h1, ?_⟩
      cases o with
      | lst ys =>
        obtain ⟨us, e1, r1⟩ := h2
        exact ⟨us, by rw [upd_ne ne]; exact e1, reps_mono hx r1⟩
    · have hn2 : n = st.length := by
        have := (List.getElem?_eq_some_iff.mp h).1
        simp at this
        omega
      subst hn2
      rw [List.getElem?_append_right (Nat.le_refl _)] at h
      simp at h
      subst h
      refine ⟨p, by show (w.μ ++ [p])[st.length]? = some p; rw [← d.len]; simp, vs, upd_same, reps_mono hx r⟩
theorem nref_read {m : Env → M (List D)} (hE : EnvOk K w0 H0 env w σ H) (hW : Wd K st w H) (hl : ∀ s s' xs, m env s = .ok xs s' → xs.length ≤ 1000) (h : outX K X E w H (M.bind (m env) (fun xs s => .ok (.ref s.length) (s ++ [.lst xs])) st) (fin K Q)) : tLst (tA K X w0 H0 E m) σ H Q := by
  cases q : m env st with
  | ok xs st1 =>
    have hx := hl _ _ _ q
    unfold M.bind at h
    rw [q] at h
    refine ⟨w, st, env, hE, hW, ?_⟩
    rw [q]
    refine fun w1 H1 e1 d1 vs r => ⟨?_, fun p hp => ?_⟩
    · rw [reps_len r, sizeLine_eq]; omega
    · obtain ⟨e2, d2⟩ := ref_new d1 r hp
      exact h _ _ (e1.trans e2) d2 _ ⟨p, by show (w1.μ ++ [p])[st1.length]? = some p; rw [← d1.len]; simp, rfl⟩
  | exc c p st1 =>
    unfold M.bind at h
    rw [q] at h
    exact ⟨w, st, env, hE, hW, by rw [q]; exact h⟩
  | bad =>
    unfold M.bind at h
    rw [q] at h
    exact h.elim
theorem tru_of {p : PyData} {v : V} {b : Bool} {B : Addr → Prop} (h : Dq K (hide B H) v p) (e : truth p = some b) : TruV K v H b := by
  cases h with
  | non => cases e; rfl
  | bl b => cases e; rfl
  | int i => cases e; rfl
  | str x => cases e
  | lst h1 h2 =>
    cases e
    refine .inl ⟨_, .inl (.inl (hide_sub _ _ h1)), ?_⟩
    cases h2 <;> rfl
  | tup h1 h2 =>
    cases e
    refine .inr (.inl ⟨_, seqT_mono hide_sub h1, ?_⟩)
    cases h2 <;> rfl
theorem truth_read {m : Env → M D} {k : Bool → Hp → Prop} (hE : EnvOk K w0 H0 env w σ H) (hW : Wd K st w H) (h : outX K X E w H (M.bind (m env) (fun x => need x fun p => M.lift (truth p)) st) fun b _ _ H' => k b H') :
    tE K X w0 H0 E m σ H fun x H' => ∃ b, TruV K x H' b ∧ k b H' :=
  one_read hE hW h fun p st1 w1 H1 x e hE1 hW1 r q => by
    obtain ⟨b, e1, q⟩ := outX_lift q
    exact ⟨b, tru_of r e1, outX_now hW1 q⟩
end

/-! ### comprehensions -/
section
variable (K : PySem.W.Frag) (X : XR) (w0 : Wo) (H0 : Hp)
def crOf (F : XK) (vs : List Nat) (it : Fb.It) (t : T) (c : Oe) : Cr := ⟨tI K X w0 H0 F it.ev, tG K w0 H0 t, tT K X w0 H0 noE c.ok, vs⟩
def G.crs : Fb.G → List Cr
  | .fin _ => []
  | .gen vs it t c g => crOf K X w0 H0 noE vs it t c :: G.crs g
end
def G.elt : Fb.G → Fb.E
  | .fin e => e
  | .gen _ _ _ _ g => G.elt g
/-- targets are among the slots that are forgotten -/
def G.slotsIn : Fb.G → Prop
  | .fin _ => True
  | .gen vs _ t _ g => (∀ i ∈ t.slots, i ∈ vs) ∧ G.slotsIn g
def emOf (D : Addr) (te : TE) : TM := fun σ2 H2 Nx => te σ2 H2 fun y H3 => ∃ acc, H3 D = some (.lst acc) ∧ acc.length < sizeLine ∧ Nx (upd H3 D (.lst (acc ++ [y])))
/-- one turn of a clause -/
def turnM (vs : List Nat) (t : T) (c : Oe) (g : Fb.G) (env : Env) (x : D) : M (List PyData) := M.bind (M.lift (t.bind x (wipeE env vs))) fun env' => M.bind (c.ok env') fun k => if k = true then g.ev env' else M.pure []
structure Hold (K : PySem.W.Frag) (H0 : Hp) (D : Addr) (env : Env) (σ : L2.St) (w : Wo) (H : Hp) (acc : List V) (done : List PyData) : Prop where
  hB : w.B D
  hm : D ∉ w.μ
  h0 : H0 D = none
  hacc : H D = some (.lst acc)
  hq : DqAll K (hide w.B H) acc done
  no : NoD env σ D
section
variable {K : PySem.W.Frag} {X : XR} {w0 : Wo} {H0 : Hp} {D : Addr}
/-- what is wanted behind the turns -/
abbrev Cont (K : PySem.W.Frag) (D : Addr) (w : Wo) (H : Hp) (stF : Sto) (all : List PyData) (Nx : Hp → Prop) : Prop :=
  ∀ w' H' acc', ExtD D w H w' H' → Wd K stF w' H' → w'.B D → D ∉ w'.μ → H' D = some (.lst acc') → DqAll K (hide w'.B H') acc' all → Nx H'
theorem lp_read {vs : List Nat} {t : T} {c : Oe} {g : Fb.G} {te : TE} (hs : ∀ i ∈ t.slots, i ∈ vs)
    (ih : ∀ {env : Env} {σ : L2.St} {w : Wo} {st : Sto} {H : Hp} {acc : List V} {done ys : List PyData} {stF : Sto} {Nx : Hp → Prop}, EnvOk K w0 H0 env w σ H → Wd K st w H → Hold K H0 D env σ w H acc done → g.ev env st = .ok ys stF → (done ++ ys).length ≤ sizeLine → Cont K D w H stF (done ++ ys) Nx → tCls (Fb.G.crs K X w0 H0 g) (emOf D te) σ H Nx)
    {env : Env} {σ : L2.St} {w : Wo} {st : Sto} {H : Hp} {acc : List V} {done zs : List PyData} {items : List Fb.D} {stF : Sto} {J : L2.It} {Nx : Hp → Prop} (hE : EnvOk K w0 H0 env w σ H) (hW : Wd K st w H) (hH : Hold K H0 D env σ w H acc done) (wk : Walk K J items w H)
    (hrun : flatM (turnM vs t c g env) items st = .ok zs stF) (hz : (done ++ zs).length ≤ sizeLine) (cont : Cont K D w H stF (done ++ zs) Nx) : tLp J (tG K w0 H0 t) (tT K X w0 H0 noE c.ok) vs (tCls (Fb.G.crs K X w0 H0 g) (emOf D te)) σ H Nx := by
  refine ⟨fun i m H2 => m = items.length - i ∧ i ≤ items.length ∧ ∃ (w2 : Wo) (st2 : Sto) (d2 z2 : List PyData) (acc2 : List V), ExtD D w H w2 H2 ∧ Wd K st2 w2 H2 ∧ Hold K H0 D env σ w2 H2 acc2 d2 ∧ flatM (turnM vs t c g env) (items.drop i) st2 = .ok z2 stF ∧ d2 ++ z2 = done ++ zs,
    ⟨items.length, rfl, Nat.zero_le _, w, st, done, zs, acc, ExtD.refl, hW, hH, hrun, rfl⟩, ?_⟩
  rintro i m H2 ⟨rfl, hi, w2, st2, d2, z2, acc2, x2, hW2, h2, hfl, hps⟩
  have hx2 : HX w H w2 H2 := x2.hx hW hH.hB
  by_cases hlt : i < items.length
  · have hit : items[i]? = some items[i] := List.getElem?_eq_getElem hlt
    obtain ⟨go, yd⟩ := wk.go w2 H2 i items[i] hx2 hW2.dom hit
    rw [List.drop_eq_getElem_cons hlt] at hfl
    obtain ⟨ys, s3, f1, f2⟩ := bind_ok hfl
    obtain ⟨zs2, s4, f3, f4⟩ := bind_ok f2
    cases f4
    obtain ⟨env2, s5, g1, g2⟩ := bind_ok f1
    obtain ⟨g1', es5⟩ := lift_ok g1
    rw [es5] at g2
    obtain ⟨kb, s6, g3, g4⟩ := bind_ok g2
    refine .inr ⟨go, fun H' => ∃ (w2 : Wo) (st2 : Sto) (d2 z2 : List PyData) (acc2 : List V), ExtD D w H w2 H' ∧ Wd K st2 w2 H' ∧ Hold K H0 D env σ w2 H' acc2 d2 ∧ flatM (turnM vs t c g env) (items.drop (i + 1)) st2 = .ok z2 stF ∧ d2 ++ z2 = done ++ zs,
      fun H' hn => ⟨items.length - (i + 1), by omega, rfl, hlt, hn⟩, fun v H3 y => ?_⟩
    obtain ⟨k3, r3⟩ := yd v H3 y
    obtain ⟨e3, d3⟩ := Ext.grown hW2 k3
    have hE2 : EnvOk K w0 H0 env w2 σ H2 := hE.goD hW hH.hB hH.h0 hH.no x2
    have hE3 : EnvOk K w0 H0 (wipeE env vs) w2 (wipe σ vs) H3 := (hE2.go hW2 e3).wiped vs
    refine ⟨w2, st2, wipeE env vs, items[i], env2, hE3, d3, r3, g1', fun σ' hE4 hl4 ha4 => ⟨?_, ?_⟩⟩
    · refine wipe_eq (by rw [hl4, wipe_length]) fun j hj => ?_
      rw [ha4 j fun z => hj (hs j z), wipe_get]
      simp [hj]
    · refine tT_ok hE4 d3 g3 fun w4 H4 e4 d4 => ?_
      have hD4 : H4 D = some (.lst acc2) := e4.keep _ _ (k3 _ _ h2.hacc) h2.hm
      have hm4 : D ∉ w4.μ := e4.notIn (by rw [k3 _ _ h2.hacc]; simp) h2.hm
      have hB4 : w4.B D := e4.up _ h2.hB
      have q4 : DqAll K (hide w4.B H4) acc2 d2 := dpAll_mono (e4.hx d3).hid (dpAll_mono (e3.hx hW2).hid h2.hq)
      have x4 : ExtD D w H w4 H4 := x2.trans (.of (e3.trans e4))
      have no4 : NoD env2 σ' D := (h2.no.wiped vs).bind g1' ha4
      cases kb with
      | true =>
        rw [if_pos rfl]
        rw [if_pos rfl] at g4
        refine ih (hE4.go d3 e4) d4 ⟨hB4, hm4, h2.h0, hD4, q4, no4⟩ g4 ?_ fun w5 H5 acc5 x5 d5 hB5 hm5 hD5 q5 => ⟨w5, s3, d2 ++ ys, zs2, acc5, x4.trans x5, d5, ⟨hB5, hm5, h2.h0, hD5, q5, h2.no⟩, f3, by rw [List.append_assoc]; exact hps⟩
        have : (d2 ++ (ys ++ zs2)).length ≤ sizeLine := by rw [hps]; exact hz
        simp only [List.length_append] at this ⊢
        omega
      | false =>
        rw [if_neg Bool.false_ne_true]
        rw [if_neg Bool.false_ne_true] at g4
        cases g4
        exact ⟨w4, _, d2, zs2, acc2, x4, d4, ⟨hB4, hm4, h2.h0, hD4, q4, h2.no⟩, f3, by simpa using hps⟩
  · have hi' : i = items.length := by omega
    subst hi'
    rw [List.drop_length] at hfl
    cases hfl
    rw [List.append_nil] at hps
    subst hps
    exact .inl ⟨wk.stop w2 H2 hx2, cont w2 H2 acc2 x2 hW2 h2.hB h2.hm h2.hacc h2.hq⟩
theorem g_read : ∀ (g : Fb.G) (_ : Fb.G.slotsIn g) {env : Env} {σ : L2.St} {w : Wo} {st : Sto} {H : Hp} {acc : List V} {done ys : List PyData} {stF : Sto} {Nx : Hp → Prop}, EnvOk K w0 H0 env w σ H → Wd K st w H → Hold K H0 D env σ w H acc done → g.ev env st = .ok ys stF →
    (done ++ ys).length ≤ sizeLine → Cont K D w H stF (done ++ ys) Nx → tCls (Fb.G.crs K X w0 H0 g) (emOf D (tE K X w0 H0 noE (Fb.G.elt g).ev)) σ H Nx
  | .fin e, _, env, σ, w, st, H, acc, done, ys, stF, Nx, hE, hW, hH, hrun, hz, cont => by
    simp only [G.ev] at hrun
    obtain ⟨x, s1, g5, g6⟩ := bind_ok hrun
    obtain ⟨p, rfl, g6⟩ := need_ok g6
    cases g6
    refine tE_ok hE hW g5 fun w5 H5 u x5 d5 r5 => ⟨acc, x5.keep _ _ hH.hacc hH.hm, ?_, ?_⟩
    · have hl := hH.hq.length
      simp only [List.length_append, List.length_cons, List.length_nil] at hz
      omega
    · have hB5 : w5.B D := x5.up _ hH.hB
      have hm5 : D ∉ w5.μ := x5.notIn (by rw [hH.hacc]; simp) hH.hm
      have q5 : DqAll K (hide w5.B H5) (acc ++ [u]) (done ++ [p]) := (dpAll_mono (x5.hx hW).hid hH.hq).append (.cons r5 .nil)
      exact cont w5 _ (acc ++ [u]) (ExtD.of x5).poke (d5.poke hB5 hm5) hB5 hm5 upd_same (by rw [hide_poke hB5]; exact q5)
  | .gen vs it t c g, hok, env, σ, w, st, H, acc, done, ys, stF, Nx, hE, hW, hH, hrun, hz, cont => by
    simp only [G.ev] at hrun
    obtain ⟨items, s1, g5, g6⟩ := bind_ok hrun
    refine ⟨w, st, env, hE, hW, ?_⟩
    rw [g5]
    intro w1 H1 x1 d1 J wk
    have hD1 : H1 D = some (.lst acc) := x1.keep _ _ hH.hacc hH.hm
    exact lp_read hok.1 (fun {env σ w st H acc done ys stF Nx} => g_read g hok.2) (hE.go hW x1) d1 ⟨x1.up _ hH.hB, x1.notIn (by rw [hH.hacc]; simp) hH.hm, hH.h0, hD1, dpAll_mono (x1.hx hW).hid hH.hq, hH.no⟩ wk g6 hz
      fun w' H' acc' x' => cont w' H' acc' ((ExtD.of x1).trans x')
/-- the whole comprehension: its list stands at D at last -/
theorem lcN_read {F : XK} {vs : List Nat} {it : Fb.It} {t : T} {c : Oe} {g : Fb.G} {env : Env} {σ : L2.St} {w : Wo} {st stF : Sto} {H : Hp} {ps : List PyData} {Q : VK} (hok : Fb.G.slotsIn (.gen vs it t c g)) (hE : EnvOk K w0 H0 env w σ H) (hW : Wd K st w H) (hrun : (Fb.G.gen vs it t c g).ev env st = .ok ps stF) (hz : ps.length ≤ sizeLine)
    (cont : ∀ (D : Addr) (w' : Wo) (H' : Hp) (acc : List V), EnvOk K w0 H0 env w' σ H' → Wd K stF w' H' → Hold K H0 D env σ w' H' acc ps → Ext w H (w'.free D) H' → HX w H w' H' → Q (.ref D) H') :
    tLcN (crOf K X w0 H0 F vs it t c) (Fb.G.crs K X w0 H0 g) (tE K X w0 H0 noE (Fb.G.elt g).ev) σ H Q := by
  simp only [G.ev] at hrun
  obtain ⟨items, s1, g5, g6⟩ := bind_ok hrun
  refine ⟨w, st, env, hE, hW, ?_⟩
  rw [g5]
  intro w1 H1 x1 d1 J wk D hD
  have hE1 := hE.go hW x1
  have h0 : H0 D = none := by
    cases q : H0 D with
    | none => rfl
    | some o => exact absurd hD (hE1.ext.dom D (by rw [q]; simp))
  have xh : Ext w1 H1 (w1.hold D) (upd H1 D (.lst [])) := Ext.hold hD
  have dh : Wd K s1 (w1.hold D) (upd H1 D (.lst [])) := d1.hold hD
  have hEh := hE1.go d1 xh
  have no : NoD env σ D := NoD.of hE1 hD
  have hm : D ∉ (w1.hold D).μ := fun z => d1.dom _ (d1.sub _ z) hD
  refine lp_read hok.1 (fun {env σ w st H acc done ys stF Nx} => g_read g hok.2) hEh dh ⟨.inr rfl, hm, h0, upd_same, .nil, no⟩ (wk.mono (xh.hx d1)) g6 (by simpa using hz) fun w' H' acc' x' d' hB' hm' hD' q' => ?_
  refine cont D w' H' acc' (hEh.goD dh (.inr rfl) h0 no x') d' ⟨hB', hm', h0, hD', by simpa using q', no⟩ (x1.trans ?_) (((x1.hx hW).trans (xh.hx d1)).trans (x'.hx dh (.inr rfl)))
  -- from the place ahead of the new list
  obtain ⟨ν, e1, f1⟩ := x'.mu
  have at_ : ∀ a, H1 a ≠ none → a ≠ D := fun a h z => h (z ▸ hD)
  refine ⟨⟨ν, e1, fun a ha => ?_⟩, fun a o h hn => x'.keep a o (by rw [upd_ne (at_ a (by rw [h]; simp))]; exact h) hn (at_ a (by rw [h]; simp)), fun a h => x'.dom a (by rw [upd_ne (at_ a h)]; exact h), fun a h => ⟨x'.up a (.inl h), at_ a (d1.dom a h)⟩, fun a h => ?_⟩
  · have z := f1 a ha
    by_cases e : a = D
    · rw [e, upd_same] at z; cases z
    · rw [upd_ne e] at z; exact z
  · obtain ⟨h1, h2⟩ := h
    rcases x'.new a h1 with z | z
    · rcases z with z | z
      · exact .inl z
      · exact absurd z h2
    · rw [upd_ne h2] at z
      exact .inr z
/-- .. as a datum -/
theorem lcN_dat {F F2 : XK} {vs own : List Nat} {it : Fb.It} {t : T} {c : Oe} {g : Fb.G} {env : Env} {σ : L2.St} {w : Wo} {st : Sto} {H : Hp} {Q : VK} (hok : Fb.G.slotsIn (.gen vs it t c g)) (hE : EnvOk K w0 H0 env w σ H) (hW : Wd K st w H) (h : outX K X F2 w H ((Fb.E.lc own (.gen vs it t c g)).ev env st) (fin K Q)) :
    tLcN (crOf K X w0 H0 F vs it t c) (Fb.G.crs K X w0 H0 g) (tE K X w0 H0 noE (Fb.G.elt g).ev) σ H Q := by
  simp only [E.ev] at h
  obtain ⟨a, stF, e0, fk⟩ := calm_ok h
  obtain ⟨ps, s2, e1, e2⟩ := bind_ok e0
  split at e2
  · rename_i hz
    cases e2
    exact lcN_read hok hE hW e1 (fits_le hz) fun D w' H' acc hE' d' hh x' _ => fk (w'.free D) H' x' (d'.free hh.hm) _ (.lst (hide_some.mpr ⟨fun z => z.2 rfl, hh.hacc⟩) (dpAll_mono hx_free.hid hh.hq))
  · cases e2
/-- .. as a list of the frame's own -/
theorem EnvOk.ownAt {D : Addr} {env : Env} {σ : L2.St} {w : Wo} {H : Hp} {acc : List V} {ps : List PyData} {i : Nat} (hE : EnvOk K w0 H0 env w σ H) (hh : Hold K H0 D env σ w H acc ps) (hl : i < env.length) : EnvOk K w0 H0 (env.set i (.own ps)) w (σ.set i (some (.ref D))) H := by
  have ln : i < σ.length := by rw [← hE.len]; exact hl
  have so : ∀ {j : Nat} {y : Sl}, j ≠ i → (env.set i (.own ps))[j]? = some y → env[j]? = some y := fun {j y} e q => by
    rw [List.getElem?_set_ne (Ne.symm e)] at q
    exact q
  refine ⟨hE.ext, by rw [List.length_set, List.length_set]; exact hE.len, fun j y q => ?_, fun j qs q => ?_, fun j k qs rs a q1 q2 q3 q4 => ?_⟩
  · have e : j ≠ i := fun e => by
      subst e
      rw [List.getElem?_set_self hl] at q
      cases q
    obtain ⟨u, h1, h2⟩ := hE.val j y (so e q)
    exact ⟨u, by rw [List.getElem?_set_ne (Ne.symm e)]; exact h1, h2⟩
  · by_cases e : j = i
    · subst e
      rw [List.getElem?_set_self hl] at q
      cases q
      exact ⟨D, acc, List.getElem?_set_self ln, hh.hB, hh.hm, hh.h0, hh.hacc, hh.hq⟩
    · obtain ⟨a, us, h1, h2⟩ := hE.own j qs (so e q)
      exact ⟨a, us, by rw [List.getElem?_set_ne (Ne.symm e)]; exact h1, h2⟩
  · have at_ : (σ.set i (some (.ref D)))[i]? = some (some (.ref D)) := List.getElem?_set_self ln
    by_cases e1 : j = i
    · by_cases e2 : k = i
      · rw [e1, e2]
      · rw [e1, at_] at q3
        cases q3
        rw [List.getElem?_set_ne (Ne.symm e2)] at q4
        exact absurd q4 (hh.no k rs (so e2 q2))
    · by_cases e2 : k = i
      · rw [e2, at_] at q4
        cases q4
        rw [List.getElem?_set_ne (Ne.symm e1)] at q3
        exact absurd q3 (hh.no j qs (so e1 q1))
      · rw [List.getElem?_set_ne (Ne.symm e1)] at q3
        rw [List.getElem?_set_ne (Ne.symm e2)] at q4
        exact hE.apart j k qs rs a (so e1 q1) (so e2 q2) q3 q4
end
end Fb

set_option Elab.async false
set_option linter.all false
set_option maxRecDepth 100000
set_option maxHeartbeats 4000000
/-! what the check is worth: expressions -/
namespace Fb
open PySem PySem.Spec PyProof.Rows L2

/-- where one stands -/
structure At (Γ : Info) (X : XR) (k : Nat) (N : List Str) (sc : Scope) (fb : Str → Bool) (Y : Cx) (E : XK) : Prop where
  ok : XOk Γ X k Y E
  n : Y.N = N
  s : Y.env.scope = sc
  f : Y.fn = fb
theorem vis_of {Y : Cx} {sc : Scope} {x : Str} (hs : Y.env.scope = sc) (h : visOk sc x = true) : Vis Y.env.scope x ∧ (x == ("__debug__" : Str)) = false ∧ (x == ("__classdict__" : Str)) = false := by
  subst hs
  unfold visOk at h
  simp only [Bool.and_eq_true, Bool.not_eq_true'] at h
  obtain ⟨h1, h2, h3⟩ := h
  refine ⟨?_, h2, h3⟩
  split at h1
  · rename_i q; exact .inl q
  · rename_i q; exact .inr (.inl q)
  · rename_i q; exact .inr (.inr q)
  · cases h1
theorem glo_of {Y : Cx} {sc : Scope} {x : Str} {n : String} (hs : Y.env.scope = sc) (h : gloOk sc x n = true) : x = Str.ofString n ∧ Gl Y x ∧ (x == ("__debug__" : Str)) = false ∧ x ≠ ("__name__" : Str) := by
  subst hs
  unfold gloOk at h
  simp only [Bool.and_eq_true, Bool.not_eq_true', decide_eq_true_eq] at h
  obtain ⟨h1, h2, h3, h4⟩ := h
  refine ⟨h1, ?_, h3, fun z => by simp [z] at h4⟩
  split at h2
  · rename_i q; exact q
  · cases h2
theorem boot_bl (f : Bl) : bootBuiltins (Str.ofString f.name) = some f.val := by
  have h : ∀ f ∈ [Bl.len, .tuple, .list, .sum, .all, .any, .abs, .max2, .min2, .maxL, .minL, .repr, .int], bootBuiltins (Str.ofString f.name) = some f.val := by decide +kernel
  exact h f (by cases f <;> decide)
theorem boot_ty (t : Ty) : bootBuiltins (Str.ofString t.name) = some (.type t.name) := by cases t <;> decide +kernel
theorem boot_isi : bootBuiltins (Str.ofString "isinstance") = some (.builtin "isinstance") := by decide +kernel
theorem free_bl (f : Bl) : f.name ∈ bltNames := by cases f <;> decide
theorem free_ty (t : Ty) : t.name ∈ bltNames := by cases t <;> decide
def Es.len : Es → Nat
  | .nil => 0
  | .cons _ es => es.len + 1
theorem Es.ev_len : ∀ (es : Es) (env : Env) (s s' : Sto) (xs : List D), es.ev env s = .ok xs s' → xs.length = es.len
  | .nil, _, _, _, _, h => by
    simp only [Es.ev] at h
    cases h
    rfl
  | .cons e es, env, s, s', xs, h => by
    simp only [Es.ev] at h
    obtain ⟨a, s1, _, h2⟩ := bind_ok h
    obtain ⟨b, s2, h3, h4⟩ := bind_ok h2
    cases h4
    simp only [List.length_cons, Es.len, Es.ev_len es env _ _ _ h3]
theorem Es.chk_len {Γ : Info} {N : List Str} {sc : Scope} {fb : Str → Bool} : ∀ (es : Es) (xs : List Expr), es.chk Γ N sc fb xs = true → xs.length = es.len ∧ xs.all plainE = true
  | .nil, [], _ => ⟨rfl, rfl⟩
  | .cons e es, x :: xs, h => by
    simp only [Es.chk, Bool.and_eq_true] at h
    obtain ⟨h1, h2⟩ := Es.chk_len es xs h.2.2
    simp only [List.length_cons, Es.len, h1, List.all_cons, h.1, h2, Bool.and_self, and_self]
  | .nil, _ :: _, h => by simp [Es.chk] at h
  | .cons _ _, [], h => by simp [Es.chk] at h
theorem small_es {Γ : Info} {N : List Str} {sc : Scope} {fb : Str → Bool} {es : Es} {xs : List Expr} (h1 : xs.length ≤ 1000) (h2 : es.chk Γ N sc fb xs = true) (env : Env) : ∀ s s' ys, es.ev env s = .ok ys s' → ys.length ≤ 1000 := fun s s' ys h => by
  rw [es.ev_len env s s' ys h, ← (es.chk_len xs h2).1]
  exact h1
theorem foldedNo {iter : Expr} {env : PySem.Env} (h : noSet iter = true) (x : Value) : foldedSetIterable iter env x = pure x := by
  cases iter <;> first | exact absurd h Bool.false_ne_true | rfl
theorem marksNo {e : Expr} {op : CmpOp} (h : noSet e = true) : behindInMarks op e = false := by
  cases e <;> first | exact absurd h Bool.false_ne_true | rfl
theorem ixNo {e : Expr} (h : noSlice e = true) : PlainIx e := by
  intro o i
  cases e <;> first | exact absurd h Bool.false_ne_true | rfl
/-- the data's item, the store's, the script's -/
def rIxR (K : PySem.W.Frag) : R2 := fun x y H Q => ∃ (a : Addr) (xs : List V) (i : Int) (v : V), x = .ref a ∧ y = .int i ∧ SqL K H a xs ∧ atI xs i = some v ∧ Q v H
section
variable {Γ : Info} {X : XR} {k : Nat} {N : List Str} {w0 : Wo} {H0 : Hp}
theorem ownN_ix (own : List Nat) : (ownN N own).map (·.2) = own := by
  unfold ownN
  rw [List.map_map]
  exact List.map_id' own
theorem reps_atI {K : PySem.W.Frag} {w : Wo} {H : Hp} {xs : List D} {vs : List V} {i : Int} {x : D} (r : Reps K w H xs vs) (e : atI xs i = some x) : ∃ v, atI vs i = some v ∧ Rep K w H x v := by
  have get : ∀ {xs : List D} {vs : List V} {j : Nat}, Reps K w H xs vs → xs[j]? = some x → ∃ v, vs[j]? = some v ∧ Rep K w H x v := by
    intro xs
    induction xs with
    | nil => intro vs j _ h; simp at h
    | cons a xs ih =>
      intro vs j r h
      cases vs with
      | nil => exact r.elim
      | cons v vs =>
        cases j with
        | zero => simp at h; subst h; exact ⟨v, rfl, r.1⟩
        | succ j =>
          obtain ⟨u, h1, h2⟩ := ih r.2 (by simpa using h)
          exact ⟨u, by simpa using h1, h2⟩
  unfold atI at e ⊢
  rw [reps_len r]
  obtain ⟨j, e1, e2⟩ := Option.bind_eq_some_iff.mp e
  obtain ⟨v, h1, h2⟩ := get r e2
  exact ⟨v, by rw [e1]; exact h1, h2⟩
theorem ix_read {K : PySem.W.Frag} {E : XK} {ma mb : Env → M D} {w : Wo} {H : Hp} {st : Sto} {env : Env} {σ : L2.St} {Q : VK} (hE : EnvOk K w0 H0 env w σ H) (hW : Wd K st w H) (h : outX K X E w H (M.bind (ma env) (fun x => M.bind (mb env) fun y => need y fun q => ixD x q) st) (fin K Q)) :
    tOp (fun x y H Q => rD K (fun p q => match q with
      | .int k => ixP p k
      | _ => none) x y H Q ∨ rIxL K x y H Q) (tE K X w0 H0 E ma) (tE K X w0 H0 E mb) σ H Q :=
  tE_go hE hW h fun x st1 w1 H1 v e hE1 hW1 r q => tE_go hE1 hW1 q fun y st2 w2 H2 u e2 hE2 hW2 r2 q => by
    obtain ⟨p, hp, q9⟩ := outX_need q
    subst hp
    clear q
    have q := q9
    clear q9
    have r := rep_mono (e2.hx hW1) r
    cases p with
    | int i =>
      cases x with
      | d p =>
        obtain ⟨a, e3, q5⟩ := outX_lift q
        obtain ⟨z, e4, ez⟩ := Option.map_eq_some_iff.mp e3
        subst ez
        exact .inl ⟨w2.B, p, .int i, z, hW2.dom, r, r2, e4, outX_gives hW2 q5⟩
      | ref n =>
        unfold ixD at q
        simp only at q
        split at q
        · rename_i xs e3
          obtain ⟨a, h1, vs, h2, h3⟩ := hW2.obs n _ e3
          split at q
          · rename_i z e4
            obtain ⟨b, h4, h5⟩ := r
            rw [h1] at h4
            cases h4
            obtain ⟨c, e5, e6⟩ := reps_atI h3 e4
            cases r2
            exact .inr ⟨a, vs, i, c, h5, rfl, .inl (.inl h2), e5, q w2 H2 Ext.refl hW2 c e6⟩
          · exact q.elim
        · exact q.elim
      | scr ns =>
        obtain ⟨a, e3, q5⟩ := outX_lift q
        obtain ⟨z, e4, ez⟩ := Option.map_eq_some_iff.mp e3
        subst ez
        obtain ⟨b, h4, h5⟩ := r
        cases r2
        refine .inr ⟨b, _, i, .int z, h4, rfl, seqL_mono hide_sub h5, ?_, outX_gives hW2 q5 _ _ (Same.refl _) (.int z)⟩
        unfold atI at e4 ⊢
        rw [List.length_map]
        obtain ⟨j, e5, e6⟩ := Option.bind_eq_some_iff.mp e4
        rw [e5]
        show (ns.map V.int)[j]? = _
        rw [List.getElem?_map, e6]
        rfl
    | _ => exact q.elim
theorem isi_call {Y : Cx} (t : Ty) : CallR Y (.builtin "isinstance") (fun vs H Q => ∃ (B : Addr → Prop) (x : V) (p : PyData), vs = [x, .ty t.name] ∧ Dq Y.K (hide B H) x p ∧ Q (.bl (t.is p)) H) := by
  intro pins s σ H vs us Q I r h
  obtain ⟨B, x, p, rfl, d, q⟩ := h
  obtain ⟨u, u2, rfl, r1, r2⟩ := vals2 r
  cases (show u2 = Value.type t.name from r2)
  exact isi_ok t I r1 d q
theorem blt_call {Y : Cx} {E : XK} (h : XOk Γ X k Y E) (f : Bl) : CallR Y f.val (fun vs H Q => rB Y.K f.run vs H Q ∨ (f = .len ∧ ∃ a ns, vs = [.ref a] ∧ SqL Y.K H a (List.map V.int ns) ∧ Q (.int (ns.length : Nat)) H)) := by
  intro pins s σ H vs us Q I r q
  rcases q with q | ⟨rfl, q⟩
  · exact bl_ok h.roomy h.calm f pins s σ H vs us Q I r q
  · exact len_scr rfl pins s σ H vs us Q I r q
theorem runD_cases (f : Bl) (xs : List D) : (f = .len ∧ ∃ ns, xs = [.scr ns]) ∨ Bl.runD f xs = M.lift (((datas xs).bind f.run).map D.d) := by
  cases xs with
  | nil => exact .inr (by cases f <;> rfl)
  | cons x r =>
    cases x with
    | scr ns =>
      cases r with
      | nil => cases f <;> first | exact .inl ⟨rfl, _, rfl⟩ | exact .inr rfl
      | cons _ _ => exact .inr (by cases f <;> rfl)
    | d p => exact .inr (by cases f <;> rfl)
    | ref n => exact .inr (by cases f <;> rfl)
theorem blt_read {K : PySem.W.Frag} {E : XK} {f : Bl} {w : Wo} {H : Hp} {st : Sto} {Q : VK} {xs : List D} {vs : List V} (hW : Wd K st w H) (r : Reps K w H xs vs) (h : outX K X E w H (f.runD xs st) (fin K Q)) :
    rB K f.run vs H Q ∨ (f = .len ∧ ∃ a ns, vs = [.ref a] ∧ SqL K H a (List.map V.int ns) ∧ Q (.int (ns.length : Nat)) H) := by
  rcases runD_cases f xs with ⟨rfl, ns, rfl⟩ | e0
  · cases vs with
    | nil => exact r.elim
    | cons v vs =>
      cases vs with
      | nil =>
        obtain ⟨⟨a, h1, h2⟩, _⟩ := r
        subst h1
        exact .inr ⟨rfl, a, ns, rfl, seqL_mono hide_sub h2, outX_gives hW h _ _ (Same.refl _) (.int _)⟩
      | cons _ _ => exact r.2.elim
  · rw [e0] at h
    obtain ⟨a, e1, h5⟩ := outX_lift h
    obtain ⟨p, e2, ep⟩ := Option.map_eq_some_iff.mp e1
    subst ep
    obtain ⟨ps, e3, e4⟩ := Option.bind_eq_some_iff.mp e2
    exact .inl ⟨w.B, ps, p, hW.dom, dpAll_of r e3, e4, outX_gives hW h5⟩
theorem callV {Y : Cx} {f : Bl} {x : Str} {p pos : Pos} {e : Expr} {es : List Expr} {t : TA} {r : List V → Hp → VK → Prop} (hc : CallR Y f.val r) (hg : Gl Y x) (hx : x = Str.ofString f.name) (hm : Y.mg x = none) (ha : PA Y (e :: es) t) (hn : x ≠ "__name__") (hdb : (x == ("__debug__" : Str)) = false)
    (he : starEach (e :: es) Y.env = (false, eval e Y.env) :: starEach es Y.env) (hpl : (backTo pos (starEach es Y.env)).any (·.1) = false) : PE Y (.Call (.Name x p) (e :: es) [] pos) (tCB r t) := by
  have hb : bootBuiltins x = some f.val := by rw [hx]; exact boot_bl f
  unfold Bl.val at hc hb
  split at hc
  · rename_i z
    rw [if_pos z] at hb
    exact pe_callTy hc hg hm hb ha hn hdb he hpl
  · rename_i z
    rw [if_neg z] at hb
    exact pe_callB hc hg hm hb ha hn hdb he hpl
end
end Fb

set_option Elab.async false
set_option linter.all false
set_option maxRecDepth 100000
set_option maxHeartbeats 4000000
/-! what the check is worth: expressions, all of them -/
namespace Fb
open PySem PySem.Spec PyProof.Rows L2
theorem PTs.imp {Y : Cx} {e : List Expr} {t t' : TT} (h : PTs Y e t) (i : ∀ σ H Q, t' σ H Q → t σ H Q) : PTs Y e t' := ⟨fun pins s σ H Q I q => h.run pins s σ H Q I (i σ H Q q)⟩
section
variable {K : PySem.W.Frag} {X : XR} {E : XK} {w0 w : Wo} {H0 H : Hp} {st : Sto} {env : Env} {σ : L2.St}
theorem cmp_read {c : Cm} {ma mb : Env → M D} {Q : Bool → Hp → Prop} (hE : EnvOk K w0 H0 env w σ H) (hW : Wd K st w H)
    (h : outX K X E w H (M.bind (ma env) (fun x => M.bind (mb env) fun y => need x fun p => need y fun q => M.lift (c.run p q)) st) fun b _ _ H' => Q b H') :
    tOp (rD K fun p q => (c.run p q).map PyData.bool) (tE K X w0 H0 E ma) (tE K X w0 H0 E mb) σ H fun x H' => ∃ b, x = .bl b ∧ Q b H' :=
  two_read hE hW h fun p q st1 w1 H1 x y e hE1 hW1 rx ry z => by
    obtain ⟨b, e1, z1⟩ := outX_lift z
    refine ⟨w1.B, p, q, .bool b, hW1.dom, rx, ry, congrArg (Option.map PyData.bool) e1, fun v H' k d => ?_⟩
    cases d
    obtain ⟨e2, d2⟩ := Ext.grown (H' := H') hW1 k
    exact ⟨b, rfl, z1 w1 H' e2 d2⟩
theorem cmpV_read {c : Cm} {ma mb : Env → M D} {Q : VK} (hE : EnvOk K w0 H0 env w σ H) (hW : Wd K st w H)
    (h : outX K X E w H (M.bind (ma env) (fun x => M.bind (mb env) fun y => need x fun p => need y fun q => M.lift ((c.run p q).map bl)) st) (fin K Q)) :
    tOp (rD K fun p q => (c.run p q).map PyData.bool) (tE K X w0 H0 E ma) (tE K X w0 H0 E mb) σ H Q :=
  two_read hE hW h fun p q st1 w1 H1 x y e hE1 hW1 rx ry z => by
    obtain ⟨a, e1, z1⟩ := outX_lift z
    obtain ⟨b, e2, eb⟩ := Option.map_eq_some_iff.mp e1
    subst eb
    exact ⟨w1.B, p, q, .bool b, hW1.dom, rx, ry, congrArg (Option.map PyData.bool) e2, outX_gives hW1 z1⟩
theorem bin_read {o : Bo} {ma mb : Env → M D} {Q : VK} (hE : EnvOk K w0 H0 env w σ H) (hW : Wd K st w H)
    (h : outX K X E w H (M.bind (ma env) (fun x => M.bind (mb env) fun y => need x fun p => need y fun q => M.lift ((o.run p q).map D.d)) st) (fin K Q)) :
    tOp (rD K o.run) (tE K X w0 H0 E ma) (tE K X w0 H0 E mb) σ H Q :=
  two_read hE hW h fun p q st1 w1 H1 x y e hE1 hW1 rx ry z => by
    obtain ⟨a, e1, z1⟩ := outX_lift z
    obtain ⟨b, e2, eb⟩ := Option.map_eq_some_iff.mp e1
    subst eb
    exact ⟨w1.B, p, q, b, hW1.dom, rx, ry, e2, outX_gives hW1 z1⟩
theorem chn_read {c c' : Cm} {ma mb mc : Env → M D} {β : Type} {en : Option Bool → M β} {no : M β} {R : VK} {k : β → Sto → Wo → Hp → Prop} (hE : EnvOk K w0 H0 env w σ H) (hW : Wd K st w H)
    (h : outX K X E w H (M.bind (ma env) (fun x => M.bind (mb env) fun y => need x fun p => need y fun q => M.bind (M.lift (c.run p q)) fun kk => if kk = true then M.bind (mc env) fun z => need z fun r => en (c'.run q r) else no) st) k)
    (hn : ∀ st w H, Wd K st w H → outX K X E w H (no st) k → R (.bl false) H)
    (hy : ∀ st w H o, Wd K st w H → outX K X E w H (en o st) k → ∃ b, o = some b ∧ ∀ H', Same H H' → R (.bl b) H') :
    tChain (rD K fun p q => (c.run p q).map PyData.bool) (rD K fun p q => (c'.run p q).map PyData.bool) (tE K X w0 H0 E ma) (tE K X w0 H0 E mb) (tE K X w0 H0 E mc) σ H R :=
  two_read (R := fun x y H2 => rD K (fun p q => (c.run p q).map PyData.bool) x y H2 fun z H3 => ∃ k, z = .bl k ∧
    (if k = true then tE K X w0 H0 E mc σ H3 (fun w' H4 => rD K (fun p q => (c'.run p q).map PyData.bool) y w' H4 R) else R (.bl false) H3)) hE hW h fun p q st1 w1 H1 x y e hE1 hW1 rx ry z => by
    have z := outX_bind z
    obtain ⟨b, e1, z1⟩ := outX_lift z
    refine ⟨w1.B, p, q, .bool b, hW1.dom, rx, ry, congrArg (Option.map PyData.bool) e1, fun v H' kk d => ?_⟩
    cases d
    obtain ⟨e2, d2⟩ := Ext.grown (H' := H') hW1 kk
    have z2 := z1 w1 H' e2 d2
    refine ⟨b, rfl, ?_⟩
    cases b with
    | true =>
      rw [if_pos rfl] at z2 ⊢
      refine one_read (hE1.go hW1 e2) d2 z2 fun r st3 w3 H3 u e3 hE3 hW3 ru z3 => ?_
      obtain ⟨b2, e4, z4⟩ := hy _ _ _ _ hW3 z3
      refine ⟨w3.B, q, r, .bool b2, hW3.dom, dp_mono (e3.hx d2).hid (dp_mono (e2.hx hW1).hid ry), ru, congrArg (Option.map PyData.bool) e4, fun v H4 k4 d4 => ?_⟩
      cases d4
      exact z4 H4 k4
    | false =>
      rw [if_neg Bool.false_ne_true] at z2 ⊢
      exact hn _ _ _ d2 z2
end
theorem dqAll_range {K : PySem.W.Frag} {H : Hp} (lo : Int) : ∀ (n : Nat), DqAll K H ((List.range n).map fun (i : Nat) => V.int (lo + (i : Nat))) (rangeP lo n) := fun n => by
  unfold rangeP
  generalize List.range n = l
  induction l with
  | nil => exact .nil
  | cons x xs ih => exact .cons (.int _) ih
theorem list_it {Y : Cx} {tg : Expr} {pins : List (Addr × Obj)} {σ : L2.St} {H1 : Hp} {s1 : Shared} {R : L2.It → Hp → Prop} {a : Addr} {xs : List V} (I1 : Inv Y pins σ H1 s1) (hq : SqL Y.K H1 a xs) (q : R (Itl Y.K a) H1) :
    wpAny (model Y.prog Y.w) Y.A (pyIter (.ref a)) (PIE Y pins σ tg R) Y.xe s1 := by
  obtain ⟨its, rv, p, _⟩ := I1.list hq
  refine wpAny_pyIter_list p.isList ?_
  have hf : H1 s1.heap.objs.size = none := I1.hok.fresh (Nat.le_refl _)
  exact ⟨_, [s1.heap.objs.size], _, _, H1, rfl, I1.kept (t' := s1.toks) fun b o e => Heap.get?_push_of_some _ e, turn_list a _, ⟨_, Heap.get?_push_size _ rfl, rfl, rfl⟩, fun b hb => by
    rw [List.mem_singleton.mp hb]
    exact I1.fpOk (Nat.le_refl _) hf, q⟩
theorem tup_it {Y : Cx} {tg : Expr} {pins : List (Addr × Obj)} {σ : L2.St} {H1 : Hp} {s1 : Shared} {R : L2.It → Hp → Prop} {a : Addr} {xs : List V} (I1 : Inv Y pins σ H1 s1) (hq : SqT Y.K H1 a xs) (q : R (Itt Y.K a) H1) :
    wpAny (model Y.prog Y.w) Y.A (pyIter (.ref a)) (PIE Y pins σ tg R) Y.xe s1 := by
  obtain ⟨its, rv, p, _⟩ := I1.tuple hq
  refine wpAny_pyIter_tuple (show s1.heap.IsTuple a its.toArray from p) ?_
  have hf : H1 s1.heap.objs.size = none := I1.hok.fresh (Nat.le_refl _)
  exact ⟨_, [s1.heap.objs.size], _, _, H1, rfl, I1.kept (t' := s1.toks) fun b o e => Heap.get?_push_of_some _ e, turn_tuple a _, ⟨_, Heap.get?_push_size _ rfl, rfl, rfl⟩, fun b hb => by
    rw [List.mem_singleton.mp hb]
    exact I1.fpOk (Nat.le_refl _) hf, q⟩
theorem pi_seq {Y : Cx} {tg e : Expr} {te : TE} (he : PE Y e te) : PI Y tg e (fun σ H R => te σ H fun x H1 => (∃ a, x = .ref a ∧ (∃ xs, SqL Y.K H1 a xs) ∧ R (Itl Y.K a) H1) ∨ (∃ a, x = .ref a ∧ (∃ xs, SqT Y.K H1 a xs) ∧ R (Itt Y.K a) H1)) := by
  refine ⟨fun pins s σ H R I h => ?_⟩
  refine thn (he.run pins s σ H _ I h) fun v s1 q => ?_
  obtain ⟨x, H1, I1, r1, q1⟩ := q
  rcases q1 with ⟨a, e, ⟨xs, hq⟩, q⟩ | ⟨a, e, ⟨xs, hq⟩, q⟩
  · subst e
    cases r1
    exact list_it I1 hq q
  · subst e
    cases r1
    exact tup_it I1 hq q
section
variable {Γ : Info} {X : XR} {k : Nat} {N : List Str} {w0 : Wo} {H0 : Hp}
theorem itNo {it : Fb.It} {sc : Scope} {fb : Str → Bool} {tg x : Expr} {env : PySem.Env} (h : it.chk Γ N sc fb tg x = true) : ∀ v, foldedSetIterable x env v = pure v := fun v => by
  have hx : noSet x = true := by
    cases it with
    | seq e =>
      unfold It.chk at h
      simp only [Bool.and_eq_true] at h
      exact h.1
    | _ => cases x <;> first | rfl | (cases tg <;> exact absurd h Bool.false_ne_true)
  exact foldedNo hx v
theorem callE (f : String) (g : List Fb.D → M Fb.D) (es : Fb.Es) (sc : Scope) (fb : Str → Bool) (x : Str) (p pos : Pos) (xs : List Expr) (h2 : gloOk sc x (Γ.ren f) = true) (h3 : es.chk Γ N sc fb xs = true) (Y : Cx) (F : XK) (a : At Γ X k N sc fb Y F)
    (gf : XOk.G Γ X k Y f g) (hA : PA Y xs (tA Y.K X w0 H0 F (es.ev))) : PE Y (.Call (.Name x p) xs [] pos) (tE Y.K X w0 H0 F ((E.call f g es).ev)) := by
  obtain ⟨g1, g2, g3, g4⟩ := glo_of a.s h2
  obtain ⟨fa, fd, ps, FG, l2, l3, l4⟩ := gf
  obtain ⟨l5, l6⟩ := es.chk_len xs h3
  cases xs with
  | nil =>
    refine PE.imp (pe_g0 FG a.ok.room0 a.ok.gu g2 (by rw [g1]; exact l2) l3 l4 a.ok.pass g3) fun σ H Q q => ?_
    obtain ⟨w, st, env, hE, hW, q⟩ := q
    simp only [E.ev] at q
    cases e1 : es.ev env st with
    | ok ds st1 =>
      have e0 := es.ev_len env _ _ _ e1
      rw [← l5] at e0
      have e2 : ds = [] := List.eq_nil_of_length_eq_zero e0
      subst e2
      cases es with
      | nil =>
        simp only [Es.ev] at q e1
        cases e1
        exact ⟨w, st, [], hW, trivial, q⟩
      | cons _ _ => simp [Es.len] at l5
    | exc c p st1 =>
      cases es with
      | nil => simp only [Es.ev] at e1; cases e1
      | cons _ _ => simp [Es.len] at l5
    | bad =>
      cases es with
      | nil => simp only [Es.ev] at e1; cases e1
      | cons _ _ => simp [Es.len] at l5
  | cons y ys =>
    simp only [List.all_cons, Bool.and_eq_true] at l6
    refine PE.imp (pe_g FG a.ok.room0 a.ok.gu g2 (by rw [g1]; exact l2) l3 l4 a.ok.pass hA g3 (star_cons l6.1) (star_none l6.2)) fun σ H Q q => ?_
    obtain ⟨w, st, env, hE, hW, q⟩ := q
    simp only [E.ev] at q
    exact tA_go hE hW q fun ds st1 w1 H1 vs e1 hE1 hW1 r z => ⟨w1, st1, ds, hW1, r, z⟩
theorem bltE (f : Bl) (es : Fb.Es) (sc : Scope) (fb : Str → Bool) (x : Str) (p pos : Pos) (xs : List Expr) (h1 : (!xs.isEmpty) = true) (h2 : gloOk sc x f.name = true) (h3 : es.chk Γ N sc fb xs = true) (Y : Cx) (F : XK) (a : At Γ X k N sc fb Y F)
    (hA : PA Y xs (tA Y.K X w0 H0 F (es.ev))) : PE Y (.Call (.Name x p) xs [] pos) (tE Y.K X w0 H0 F ((E.blt f es).ev)) := by
  obtain ⟨g1, g2, g3, g4⟩ := glo_of a.s h2
  obtain ⟨l5, l6⟩ := es.chk_len xs h3
  cases xs with
  | nil => cases h1
  | cons y ys =>
    simp only [List.all_cons, Bool.and_eq_true] at l6
    refine PE.imp (callV (blt_call a.ok f) g2 g1 (by rw [g1]; exact a.ok.g.free _ (free_bl f)) hA g4 g3 (star_cons l6.1) (star_none l6.2)) fun σ H Q q => ?_
    obtain ⟨w, st, env, hE, hW, q⟩ := q
    simp only [E.ev] at q
    exact tA_go hE hW q fun ds st1 w1 H1 vs e1 hE1 hW1 r z => blt_read hW1 r z
theorem isiE (x : Fb.E) (t : Ty) (sc : Scope) (fb : Str → Bool) (n z : Str) (p p2 pos : Pos) (y : Expr) (h1 : gloOk sc n "isinstance" = true) (h2 : gloOk sc z t.name = true) (h3 : plainE y = true) (Y : Cx) (F : XK) (a : At Γ X k N sc fb Y F)
    (hx : PE Y y (tE Y.K X w0 H0 F (x.ev))) : PE Y (.Call (.Name n p) [y, .Name z p2] [] pos) (tE Y.K X w0 H0 F ((E.isi x t).ev)) := by
  obtain ⟨g1, g2, g3, g4⟩ := glo_of a.s h1
  obtain ⟨f1, f2, f3, f4⟩ := glo_of a.s h2
  have ht : PE Y (.Name z p2) (tC (.ty t.name)) := pe_bltn f2 (by rw [f1]; exact a.ok.g.free _ (free_ty t)) (by rw [f1]; exact boot_ty t) rfl f4 f3
  refine PE.imp (pe_callB (isi_call t) g2 (by rw [g1]; exact a.ok.g.free _ (by decide)) (by rw [g1]; exact boot_isi) (pa_cons hx (pa_cons ht pa_nil rfl) (star_cons h3)) g4 g3 (star_cons h3) rfl) fun σ H Q q => ?_
  obtain ⟨w, st, env, hE, hW, q⟩ := q
  simp only [E.ev] at q
  exact one_read hE hW q fun d st1 w1 H1 v e1 hE1 hW1 r z => ⟨w1.B, v, d, rfl, r, outX_gives hW1 z _ _ (Same.refl _) (.bl _)⟩
theorem own_inv {K : PySem.W.Frag} {E : XK} {w : Wo} {H : Hp} {st : Sto} {env : Env} {i : Nat} {β : Type} {f : List PyData → M β} {kk : β → Sto → Wo → Hp → Prop} (h : outX K X E w H ((match env[i]? with
    | some (.own xs) => f xs
    | _ => M.bad) st) kk) : ∃ ps, env[i]? = some (.own ps) ∧ outX K X E w H (f ps st) kk := by
  cases q : env[i]? with
  | none => rw [q] at h; exact h.elim
  | some sl =>
    rw [q] at h
    cases sl with
    | own xs => exact ⟨xs, rfl, h⟩
    | _ => exact h.elim
theorem in_ok {Y : Cx} {pins : List (Addr × Obj)} {s : Shared} {σ : L2.St} {H : Hp} {x : V} {v : Value} {la : Addr} {vs : List V} {ps : List PyData} {p : PyData} {Q : VK} {B : Addr → Prop} {c : Cm} {b : Bool} (hu : Roomy Y.A) (I : Inv Y pins σ H s) (rx : RelV x v) (hc : c.isIn = true) (g5 : H la = some (.lst vs)) (g6 : DqAll Y.K (hide B H) vs ps)
    (r : Dq Y.K (hide B H) x p) (e : c.run p (.list ps) = some b) (q : Q (.bl b) H) : wpAny (model Y.prog Y.w) Y.A (compareOp c.ast v (.ref la)) (EP Y pins σ Q) Y.xe s := by
  have hu2 := hu.units
  have dl : Dp Y.K H (.ref la) (.list ps) := .lst (.inl (.inl g5)) (g6.dp hide_sub)
  cases c <;> try (exact absurd hc Bool.false_ne_true)
  · simp only [Cm.run] at e
    split at e
    · rename_i hz
      cases e
      obtain ⟨z1, z2⟩ := Bool.and_eq_true_iff.mp hz
      exact op_inD (by omega) pins s σ H _ _ v _ Q I rx (show RelV (V.ref la) (Value.ref la) from rfl) ⟨_, _, r.dp hide_sub, dl, z1, z2, q⟩
    · cases e
  · simp only [Cm.run] at e
    split at e
    · rename_i hz
      cases e
      obtain ⟨z1, z2⟩ := Bool.and_eq_true_iff.mp hz
      exact op_notInD (by omega) pins s σ H _ _ v _ Q I rx (show RelV (V.ref la) (Value.ref la) from rfl) ⟨_, _, r.dp hide_sub, dl, z1, z2, q⟩
    · cases e
/-- x in own list, by values -/
def rInO (K : PySem.W.Frag) (c : Cm) : R2 := fun x y H Q => ∃ (B : Addr → Prop) (la : Addr) (vs : List V) (ps : List PyData) (p : PyData) (b : Bool), y = .ref la ∧ H la = some (.lst vs) ∧ DqAll K (hide B H) vs ps ∧ Dq K (hide B H) x p ∧ c.run p (.list ps) = some b ∧ Q (.bl b) H
theorem op_inO {Y : Cx} {c : Cm} (hu : Roomy Y.A) (hc : c.isIn = true) : OpR Y (compareOp c.ast) (rInO Y.K c) := by
  intro pins s σ H x y v u Q I rx ry h
  obtain ⟨B, la, vs, ps, p, b, rfl, h1, h2, h3, h4, q⟩ := h
  cases ry
  exact in_ok hu I rx hc h1 h2 h3 h4 q
theorem oin_read {Y : Cx} {F : XK} {c : Cm} {x : Fb.E} {i : Nat} {w : Wo} {H : Hp} {st : Sto} {env : Env} {σ : L2.St} {β : Type} {f : Option Bool → M β} {kk : β → Sto → Wo → Hp → Prop} {R : VK} (hE : EnvOk Y.K w0 H0 env w σ H) (hW : Wd Y.K st w H)
    (q : outX Y.K X F w H ((match env[i]? with
    | some (.own xs) => M.bind (x.ev env) fun d => need d fun p => f (c.run p (.list xs))
    | _ => M.bad) st) kk) (fin : ∀ st1 w1 H1 o, Wd Y.K st1 w1 H1 → outX Y.K X F w1 H1 (f o st1) kk → ∃ b, o = some b ∧ R (.bl b) H1) :
    tE Y.K X w0 H0 F x.ev σ H fun v H1 => ∃ y, σ[i]? = some (some y) ∧ rInO Y.K c v y H1 R := by
  obtain ⟨ps, q1, q⟩ := own_inv q
  obtain ⟨la, vs, g1, g2, g3, g4, g5, g6⟩ := hE.own i ps q1
  refine one_read hE hW q fun p st1 w1 H1 v e1 hE1 hW1 r z => ?_
  obtain ⟨b, e2, z2⟩ := fin _ _ _ _ hW1 z
  exact ⟨.ref la, g1, w1.B, la, vs, ps, p, b, rfl, e1.keep _ _ g5 g3, dpAll_mono (e1.hx hW).hid g6, r, e2, z2⟩
theorem oinE (c : Cm) (x : Fb.E) (i : Nat) (sc : Scope) (fb : Str → Bool) (l : Expr) (y : Str) (p pos : Pos) (h0 : c.isIn = true) (h2 : N[i]? = some y) (h3 : visOk sc y = true) (Y : Cx) (F : XK) (a : At Γ X k N sc fb Y F) (hx : PE Y l (tE Y.K X w0 H0 F x.ev)) :
    PE Y (.Compare l [c.ast] [.Name y p] pos) (tE Y.K X w0 H0 F (E.oin c x i).ev) := by
  obtain ⟨v1, v2, v3⟩ := vis_of a.s h3
  refine PE.imp (pe_cmpR (op_inO a.ok.roomy h0) hx (pe_var (by rw [a.n]; exact h2) v1 v2 v3) (marksNo rfl)) fun σ H Q q => ?_
  obtain ⟨w, st, env, hE, hW, q⟩ := q
  simp only [E.ev] at q
  exact oin_read (f := fun o => M.lift (o.map bl)) hE hW q fun st1 w1 H1 o d z => by
    obtain ⟨b, e1, z1⟩ := outX_lift z
    obtain ⟨b', e2, eb⟩ := Option.map_eq_some_iff.mp e1
    subst eb
    exact ⟨b', e2, outX_gives d z1 _ _ (Same.refl _) (.bl _)⟩
theorem oinT (c : Cm) (x : Fb.E) (i : Nat) (sc : Scope) (fb : Str → Bool) (l : Expr) (y : Str) (p pos : Pos) (h0 : c.isIn = true) (h2 : N[i]? = some y) (h3 : visOk sc y = true) (Y : Cx) (F : XK) (a : At Γ X k N sc fb Y F) (hx : PE Y l (tE Y.K X w0 H0 F x.ev)) :
    PT Y (.Compare l [c.ast] [.Name y p] pos) (tT Y.K X w0 H0 F (E.oin c x i).tst) := by
  obtain ⟨v1, v2, v3⟩ := vis_of a.s h3
  refine PT.imp (pt_cmpR (op_inO a.ok.roomy h0) hx (pe_var (by rw [a.n]; exact h2) v1 v2 v3) (marksNo rfl)) fun σ H Q q => ?_
  obtain ⟨w, st, env, hE, hW, q⟩ := q
  simp only [E.tst] at q
  exact oin_read (f := fun o => M.lift o) (R := fun x H' => ∃ b, x = .bl b ∧ Q b H') hE hW q fun st1 w1 H1 o d z => by
    obtain ⟨b, e1, z1⟩ := outX_lift z
    exact ⟨b, e1, b, rfl, outX_now d z1⟩
theorem chk0_inv {vs : List Nat} {it : Fb.It} {t : T} {c : Oe} {g : G} {own : List Nat} {sc si : Scope} {fb fi : Str → Bool} {elt : Expr} {gs : List Comprehension} (h : G.chk0 Γ N (.gen vs it t c g) own sc fb si fi elt gs = true) :
    ∃ tg iter ifs gs', gs = ⟨tg, iter, ifs, 0⟩ :: gs' ∧ vs = own ∧ noSet iter = true ∧ it.chk Γ N sc fb tg iter = true ∧ t.chk N si fi tg = true ∧ (∀ i ∈ t.slots, i ∈ vs) ∧ c.chkL Γ N si fi ifs = true ∧ g.chkR Γ N vs si fi elt gs' = true := by
  cases gs with
  | nil => exact absurd h Bool.false_ne_true
  | cons y gs' =>
    obtain ⟨tg, iter, ifs, z⟩ := y
    simp only [G.chk0, Bool.and_eq_true, decide_eq_true_eq] at h
    obtain ⟨⟨h1, h2, h3⟩, h4, h5, h6, h7, h8⟩ := h
    subst h2
    exact ⟨_, _, _, _, rfl, h1, h3, h4, h5, fun i hi => by simpa using List.all_eq_true.mp h6 i hi, h7, h8⟩
theorem chkR_inv {vs us : List Nat} {it : Fb.It} {t : T} {c : Oe} {g : G} {si : Scope} {fi : Str → Bool} {elt : Expr} {gs : List Comprehension} (h : G.chkR Γ N (.gen vs it t c g) us si fi elt gs = true) :
    ∃ tg iter ifs gs', gs = ⟨tg, iter, ifs, 0⟩ :: gs' ∧ (∀ i ∈ vs, i ∈ us) ∧ noSet iter = true ∧ it.chk Γ N si fi tg iter = true ∧ t.chk N si fi tg = true ∧ (∀ i ∈ t.slots, i ∈ vs) ∧ c.chkL Γ N si fi ifs = true ∧ g.chkR Γ N vs si fi elt gs' = true := by
  cases gs with
  | nil => exact absurd h Bool.false_ne_true
  | cons y gs' =>
    obtain ⟨tg, iter, ifs, z⟩ := y
    simp only [G.chkR, Bool.and_eq_true, decide_eq_true_eq] at h
    obtain ⟨⟨h1, h2, h3⟩, h4, h5, h6, h7, h8⟩ := h
    subst h2
    exact ⟨_, _, _, _, rfl, fun i hi => by simpa using List.all_eq_true.mp h1 i hi, h3, h4, h5, fun i hi => by simpa using List.all_eq_true.mp h6 i hi, h7, h8⟩
def clOf (c : Comprehension) : Cl := ⟨c.target, c.iter, c.ifs⟩
theorem chkR_gs : ∀ (g : Fb.G) {us : List Nat} {si : Scope} {fi : Str → Bool} {elt : Expr} {gs : List Comprehension}, g.chkR Γ N us si fi elt gs = true → gs = (gs.map clOf).map Cl.c
  | .fin e, us, si, fi, elt, gs, h => by
    cases gs with
    | nil => rfl
    | cons _ _ => exact absurd h Bool.false_ne_true
  | .gen vs it t c g, us, si, fi, elt, gs, h => by
    obtain ⟨tg, iter, ifs, gs', rfl, _, _, _, _, _, _, h8⟩ := chkR_inv h
    have := chkR_gs g h8
    simp only [List.map_cons]
    rw [← this]
    rfl
theorem chkR_slots : ∀ (g : Fb.G) {us : List Nat} {si : Scope} {fi : Str → Bool} {elt : Expr} {gs : List Comprehension}, g.chkR Γ N us si fi elt gs = true → G.slotsIn g ∧ ∀ (K : PySem.W.Frag) (X : XR) (w0 : Wo) (H0 : Hp), ∀ i ∈ slotsCr (G.crs K X w0 H0 g), i ∈ us
  | .fin e, us, si, fi, elt, gs, h => ⟨trivial, fun _ _ _ _ i hi => absurd hi List.not_mem_nil⟩
  | .gen vs it t c g, us, si, fi, elt, gs, h => by
    obtain ⟨tg, iter, ifs, gs', rfl, h1, _, _, _, h6, _, h8⟩ := chkR_inv h
    exact ⟨⟨h6, (chkR_slots g h8).1⟩, fun _ _ _ _ i hi => h1 i hi⟩
mutual
theorem sndE : ∀ (ir : Fb.E) (sc : Scope) (fb : Str → Bool) (e : Expr), ir.chk Γ N sc fb e = true → ∀ (Y : Cx) (F : XK), At Γ X k N sc fb Y F → ir.good (XOk.G Γ X k Y) → PE Y e (tE Y.K X w0 H0 F (ir.ev))
  | .var i, sc, fb, e, h, Y, F, a, gd => by
    cases e <;> try (exact absurd h Bool.false_ne_true)
    rename_i x pos
    simp only [E.chk, Bool.and_eq_true, decide_eq_true_eq] at h
    obtain ⟨v1, v2, v3⟩ := vis_of a.s h.2
    refine PE.imp (pe_var (by rw [a.n]; exact h.1) v1 v2 v3) fun σ H Q q => ?_
    obtain ⟨w, st, env, hE, hW, q⟩ := q
    simp only [E.ev] at q
    obtain ⟨d, e1, q⟩ := outX_lift q
    obtain ⟨s, e2, e3⟩ := Option.bind_eq_some_iff.mp e1
    cases s <;> simp [Sl.get] at e3
    subst e3
    obtain ⟨v, h1, h2⟩ := hE.val i _ e2
    exact ⟨v, h1, outX_now hW q v h2⟩
  | .cst p, sc, fb, e, h, Y, F, a, gd => by
    cases e <;> try (exact absurd h Bool.false_ne_true)
    rename_i c kk pos
    simp only [E.chk] at h
    have go : ∀ (v : V), (∀ K H, Dq K H v p) → ∀ σ H Q, tE Y.K X w0 H0 F ((E.cst p).ev) σ H Q → tC v σ H Q := fun v d σ H Q q => by
      obtain ⟨w, st, env, hE, hW, q⟩ := q
      simp only [E.ev] at q
      exact outX_gives hW q _ _ (Same.refl _) (d _ _)
    cases p with
    | none => cases c <;> try (exact absurd h Bool.false_ne_true)
              exact PE.imp pe_non (go .non fun _ _ => .non)
    | bool b =>
      cases c <;> try (exact absurd h Bool.false_ne_true)
      simp only [cstOk, beq_iff_eq] at h
      subst h
      exact PE.imp pe_bl (go (.bl _) fun _ _ => .bl _)
    | int b =>
      cases c <;> try (exact absurd h Bool.false_ne_true)
      simp only [cstOk, beq_iff_eq] at h
      subst h
      exact PE.imp pe_int (go (.int _) fun _ _ => .int _)
    | str b =>
      cases c <;> try (exact absurd h Bool.false_ne_true)
      simp only [cstOk, decide_eq_true_eq] at h
      subst h
      exact PE.imp pe_str (go (.str _) fun _ _ => .str _)
    | _ => cases c <;> exact absurd h Bool.false_ne_true
  | .glo n pv, sc, fb, e, h, Y, F, a, gd => by
    cases e <;> try (exact absurd h Bool.false_ne_true)
    rename_i x pos
    simp only [E.chk, Bool.and_eq_true] at h
    obtain ⟨g1, g2, g3, g4⟩ := glo_of a.s h.2
    obtain ⟨p, hp, h0⟩ : ∃ p, Γ.con n = some p ∧ p = pv := by
      have h1 := h.1
      cases q : Γ.con n with
      | none => rw [q] at h1; cases h1
      | some p => rw [q] at h1; exact ⟨p, rfl, datEq_ok p pv h1⟩
    subst h0
    obtain ⟨u, v, c1, c2, c3⟩ := a.ok.g.con n p hp
    refine PE.imp (pe_glob g2 (by rw [g1]; exact c1) c2 g3) fun σ H Q q => ?_
    obtain ⟨w, st, env, hE, hW, q⟩ := q
    simp only [E.ev] at q
    exact outX_gives hW q _ _ (Same.refl _) (c3 _)
  | .tup es, sc, fb, e, h, Y, F, a, gd => by
    cases e <;> try (exact absurd h Bool.false_ne_true)
    simp only [E.chk, Bool.and_eq_true, decide_eq_true_eq] at h
    refine PE.imp (pe_tup (sndEs es sc fb _ h.2 Y F a gd)) fun σ H Q q => ?_
    obtain ⟨w, st, env, hE, hW, q⟩ := q
    simp only [E.ev] at q
    exact tup_read hE hW (small_es h.1 h.2 env) q
  | .lst es, sc, fb, e, h, Y, F, a, gd => by
    cases e <;> try (exact absurd h Bool.false_ne_true)
    simp only [E.chk, Bool.and_eq_true, decide_eq_true_eq] at h
    refine PE.imp (pe_lst (sndEs es sc fb _ h.2 Y F a gd)) fun σ H Q q => ?_
    obtain ⟨w, st, env, hE, hW, q⟩ := q
    simp only [E.ev] at q
    exact lst_read hE hW (small_es h.1 h.2 env) q
  | .nref es, sc, fb, e, h, Y, F, a, gd => by
    cases e <;> try (exact absurd h Bool.false_ne_true)
    simp only [E.chk, Bool.and_eq_true, decide_eq_true_eq] at h
    refine PE.imp (pe_lst (sndEs es sc fb _ h.2 Y F a gd)) fun σ H Q q => ?_
    obtain ⟨w, st, env, hE, hW, q⟩ := q
    simp only [E.ev] at q
    exact nref_read hE hW (small_es h.1 h.2 env) q
  | .bin o x y, sc, fb, e, h, Y, F, a, gd => by
    cases e <;> try (exact absurd h Bool.false_ne_true)
    simp only [E.chk, Bool.and_eq_true, decide_eq_true_eq] at h
    obtain ⟨h1, h2, h3⟩ := h
    subst h1
    refine PE.imp (pe_op (bo_ok o) (sndE x sc fb _ h2 Y F a gd.1) (sndE y sc fb _ h3 Y F a gd.2)) fun σ H Q q => ?_
    obtain ⟨w, st, env, hE, hW, q⟩ := q
    simp only [E.ev] at q
    exact bin_read hE hW q
  | .neg x, sc, fb, e, h, Y, F, a, gd => by
    cases e <;> try (exact absurd h Bool.false_ne_true)
    rename_i op y pos
    cases op <;> try (exact absurd h Bool.false_ne_true)
    simp only [E.chk] at h
    refine PE.imp (pe_un un_neg (sndE x sc fb _ h Y F a gd)) fun σ H Q q => ?_
    obtain ⟨w, st, env, hE, hW, q⟩ := q
    simp only [E.ev] at q
    refine one_read hE hW q fun p st1 w1 H1 v e1 hE1 hW1 r z => ?_
    cases p with
    | int i =>
      cases r
      exact ⟨i, rfl, outX_gives hW1 z _ _ (Same.refl _) (.int _)⟩
    | _ => exact z.elim
  | .not x, sc, fb, e, h, Y, F, a, gd => by
    cases e <;> try (exact absurd h Bool.false_ne_true)
    rename_i op y pos
    cases op <;> try (exact absurd h Bool.false_ne_true)
    simp only [E.chk] at h
    refine PE.imp (pe_not (sndE x sc fb _ h Y F a gd)) fun σ H Q q => ?_
    obtain ⟨w, st, env, hE, hW, q⟩ := q
    simp only [E.ev] at q
    refine one_read hE hW q fun p st1 w1 H1 v e1 hE1 hW1 r z => ?_
    cases p with
    | bool b =>
      cases r
      exact ⟨b, rfl, outX_gives hW1 z _ _ (Same.refl _) (.bl _)⟩
    | _ => exact z.elim
  | .cmp c x y, sc, fb, e, h, Y, F, a, gd => by
    cases e <;> try (exact absurd h Bool.false_ne_true)
    rename_i l ops rs pos
    match ops, rs, h with
    | [op], [r], h =>
      simp only [E.chk, Bool.and_eq_true, decide_eq_true_eq] at h
      obtain ⟨h1, h2, h3, h4⟩ := h
      subst h1
      refine PE.imp (pe_cmpR (cm_ok a.ok.roomy c) (sndE x sc fb _ h3 Y F a gd.1) (sndE y sc fb _ h4 Y F a gd.2) (marksNo h2)) fun σ H Q q => ?_
      obtain ⟨w, st, env, hE, hW, q⟩ := q
      simp only [E.ev] at q
      exact cmpV_read hE hW q
  | .chn c c' x y z, sc, fb, e, h, Y, F, a, gd => by
    cases e <;> try (exact absurd h Bool.false_ne_true)
    rename_i l ops rs pos
    match ops, rs, h with
    | [op, op'], [r, r'], h =>
      simp only [E.chk, Bool.and_eq_true, decide_eq_true_eq] at h
      obtain ⟨h1, h2, h3, h4, h5, h6⟩ := h
      subst h1 h2
      refine PE.imp (pe_chain (cm_ok a.ok.roomy c) (cm_ok a.ok.roomy c') (sndE x sc fb _ h4 Y F a gd.1) (sndE y sc fb _ h5 Y F a gd.2.1) (sndE z sc fb _ h6 Y F a gd.2.2) (marksNo (op := c'.ast) h3)) fun σ H Q q => ?_
      obtain ⟨w, st, env, hE, hW, q⟩ := q
      simp only [E.ev] at q
      refine chn_read (en := fun o => M.lift (o.map bl)) (no := M.pure (bl false)) hE hW q (fun st w H d z => outX_gives d z _ _ (Same.refl _) (.bl _)) fun st w H o d z => ?_
      obtain ⟨b, e1, z1⟩ := outX_lift z
      obtain ⟨b', e2, eb⟩ := Option.map_eq_some_iff.mp e1
      subst eb
      exact ⟨b', e2, fun H' kk => outX_gives d z1 _ _ kk (.bl _)⟩
  | .and x y, sc, fb, e, h, Y, F, a, gd => by
    cases e <;> try (exact absurd h Bool.false_ne_true)
    rename_i op vs pos
    cases op <;> try (exact absurd h Bool.false_ne_true)
    match vs, h with
    | u :: v :: r, h =>
      simp only [E.chk, Bool.and_eq_true] at h
      have hb : PE Y (.BoolOp .And (v :: r) pos) (tE Y.K X w0 H0 F (y.ev)) := by
        cases r with
        | nil => exact pe_one (sndE y sc fb _ h.2 Y F a gd.2)
        | cons _ _ => exact sndE y sc fb _ h.2 Y F a gd.2
      refine PE.imp (pe_and (sndE x sc fb _ h.1 Y F a gd.1) hb) fun σ H Q q => ?_
      obtain ⟨w, st, env, hE, hW, q⟩ := q
      simp only [E.ev] at q
      refine one_read hE hW q fun p st1 w1 H1 v e1 hE1 hW1 r z => ?_
      match p, r, z with
      | .bool true, .bl _, z => exact ⟨true, rfl, by rw [if_pos rfl]; exact ⟨w1, st1, env, hE1, hW1, z⟩⟩
      | .bool false, .bl _, z => exact ⟨false, rfl, by rw [if_neg Bool.false_ne_true]; exact outX_gives hW1 z _ _ (Same.refl _) (.bl _)⟩
      | .none, _, z => exact z.elim
      | .int _, _, z => exact z.elim
      | .str _, _, z => exact z.elim
      | .list _, _, z => exact z.elim
      | .tuple _, _, z => exact z.elim
  | .or x y, sc, fb, e, h, Y, F, a, gd => by
    cases e <;> try (exact absurd h Bool.false_ne_true)
    rename_i op vs pos
    cases op <;> try (exact absurd h Bool.false_ne_true)
    match vs, h with
    | u :: v :: r, h =>
      simp only [E.chk, Bool.and_eq_true] at h
      have hb : PE Y (.BoolOp .Or (v :: r) pos) (tE Y.K X w0 H0 F (y.ev)) := by
        cases r with
        | nil => exact pe_one (sndE y sc fb _ h.2 Y F a gd.2)
        | cons _ _ => exact sndE y sc fb _ h.2 Y F a gd.2
      refine PE.imp (pe_or (sndE x sc fb _ h.1 Y F a gd.1) hb) fun σ H Q q => ?_
      obtain ⟨w, st, env, hE, hW, q⟩ := q
      simp only [E.ev] at q
      refine one_read hE hW q fun p st1 w1 H1 v e1 hE1 hW1 r z => ?_
      match p, r, z with
      | .bool true, .bl _, z => exact ⟨true, rfl, by rw [if_pos rfl]; exact outX_gives hW1 z _ _ (Same.refl _) (.bl _)⟩
      | .bool false, .bl _, z => exact ⟨false, rfl, by rw [if_neg Bool.false_ne_true]; exact ⟨w1, st1, env, hE1, hW1, z⟩⟩
      | .none, _, z => exact z.elim
      | .int _, _, z => exact z.elim
      | .str _, _, z => exact z.elim
      | .list _, _, z => exact z.elim
      | .tuple _, _, z => exact z.elim
  | .ife t x y, sc, fb, e, h, Y, F, a, gd => by
    cases e <;> try (exact absurd h Bool.false_ne_true)
    simp only [E.chk, Bool.and_eq_true] at h
    refine PE.imp (pe_ifExp (sndT2 t sc fb _ h.1 Y F a gd.1) (sndE x sc fb _ h.2.1 Y F a gd.2.1) (sndE y sc fb _ h.2.2 Y F a gd.2.2)) fun σ H Q q => ?_
    obtain ⟨w, st, env, hE, hW, q⟩ := q
    simp only [E.ev] at q
    refine tT_go hE hW q fun b st1 w1 H1 e1 hE1 hW1 z => ?_
    cases b with
    | true =>
      rw [if_pos rfl] at z ⊢
      exact ⟨w1, st1, env, hE1, hW1, z⟩
    | false =>
      rw [if_neg Bool.false_ne_true] at z ⊢
      exact ⟨w1, st1, env, hE1, hW1, z⟩
  | .ix x y, sc, fb, e, h, Y, F, a, gd => by
    cases e <;> try (exact absurd h Bool.false_ne_true)
    have h' := h
    unfold E.chk at h'
    simp only [Bool.and_eq_true] at h'
    obtain ⟨h1, h2, h3⟩ := h'
    refine PE.imp (pe_ix (IxR.or ix_ok ix_list) (sndE x sc fb _ h2 Y F a gd.1) (sndE y sc fb _ h3 Y F a gd.2) (ixNo h1)) fun σ H Q q => ?_
    obtain ⟨w, st, env, hE, hW, q⟩ := q
    simp only [E.ev] at q
    exact ix_read hE hW q
  | .cut x lo hi, sc, fb, e, h, Y, F, a, gd => by
    cases e <;> try (exact absurd h Bool.false_ne_true)
    rename_i v sl pos
    cases sl <;> try (exact absurd h Bool.false_ne_true)
    rename_i l u s p2
    cases s <;> try (exact absurd h Bool.false_ne_true)
    simp only [E.chk, Bool.and_eq_true] at h
    refine PE.imp (pe_slice cut_ok (sndE x sc fb _ h.1 Y F a gd.1) (sndO lo sc fb _ h.2.1 Y F a gd.2.1) (sndO hi sc fb _ h.2.2 Y F a gd.2.2)) fun σ H Q q => ?_
    obtain ⟨w, st, env, hE, hW, q⟩ := q
    simp only [E.ev] at q
    refine tE_go hE hW q fun d st1 w1 H1 v e1 hE1 hW1 r z => ?_
    refine tO_go hE1 hW1 z fun o st2 w2 H2 e2 hE2 hW2 z => ?_
    refine tO_go hE2 hW2 z fun o2 st3 w3 H3 e3 hE3 hW3 z => ?_
    obtain ⟨p, hp, z⟩ := outX_need z
    subst hp
    obtain ⟨d2, e4, z2⟩ := outX_lift z
    obtain ⟨p2, e5, ep⟩ := Option.map_eq_some_iff.mp e4
    subst ep
    exact ⟨w3.B, p, p2, hW3.dom, dp_mono (e3.hx hW2).hid (dp_mono (e2.hx hW1).hid r), e5, outX_gives hW3 z2⟩
  | .rev x, sc, fb, e, h, Y, F, a, gd => by
    cases e <;> try (exact absurd h Bool.false_ne_true)
    rename_i v sl pos
    match sl, h with
    | .Slice none none (some kk) p2, h =>
      simp only [E.chk, Bool.and_eq_true] at h
      have hk : ∃ k p1 p3, kk = .UnaryOp .USub (.Constant (.int 1) k p1) p3 := by
        have h1 := h.1
        unfold minus1 at h1
        split at h1
        · exact ⟨_, _, _, rfl⟩
        · cases h1
      obtain ⟨k1, p1, p3, rfl⟩ := hk
      refine PE.imp (pe_revA (sndE x sc fb _ h.2 Y F a gd)) fun σ H Q q => ?_
      obtain ⟨w, st, env, hE, hW, q⟩ := q
      simp only [E.ev] at q
      refine one_read hE hW q fun p st1 w1 H1 v e1 hE1 hW1 r z => ?_
      obtain ⟨d2, e4, z2⟩ := outX_lift z
      obtain ⟨p2, e5, ep⟩ := Option.map_eq_some_iff.mp e4
      subst ep
      cases r with
      | lst h1 h2 =>
        cases e5
        exact ⟨_, _, rfl, .inl ⟨.inl (.inl (hide_sub _ _ h1)), fun p hp => gives_lst hW1.dom (outX_gives hW1 z2) h2.reverse hp⟩⟩
      | tup h1 h2 =>
        cases e5
        exact ⟨_, _, rfl, .inr ⟨seqT_mono hide_sub h1, fun p hp => gives_tup hW1.dom (outX_gives hW1 z2) h2.reverse hp⟩⟩
      | _ => simp [revP] at e5
  | .lrg e1 e2, sc, fb, e, h, Y, F, a, gd => by
    cases e <;> try (exact absurd h Bool.false_ne_true)
    rename_i fn xs kw pos
    cases fn <;> try (exact absurd h Bool.false_ne_true)
    match xs, kw, h with
    | [.Call (.Name m p2) [y, y2] [] p3], [], h =>
      simp only [E.chk, Bool.and_eq_true] at h
      obtain ⟨f1, f2, f3, f4⟩ := glo_of a.s h.1
      obtain ⟨g1, g2, g3, g4⟩ := glo_of a.s h.2.1
      subst f1 g1
      refine PE.imp (pe_listRg a.ok.calm f2 (a.ok.g.free "list" (by decide)) (prg_2 g2 (a.ok.g.free "range" (by decide)) (sndE e1 sc fb _ h.2.2.2.2.1 Y F a gd.1) (sndE e2 sc fb _ h.2.2.2.2.2 Y F a gd.2) (star_cons h.2.2.1) (star_cons h.2.2.2.1) (by rw [star_cons h.2.2.2.1]; rfl))) fun σ H Q q => ?_
      obtain ⟨w, st, env, hE, hW, q⟩ := q
      simp only [E.ev] at q
      refine two_read hE hW q fun p p2 st1 w1 H1 v v2 e1 hE1 hW1 r r2 z => ?_
      match p, p2, r, r2, z with
      | .int i, .int j, .int _, .int _, z =>
        simp only [lrgM] at z
        split at z
        · rename_i hz
          simp only [Bool.and_eq_true, rng62, fitsLine, decide_eq_true_eq] at hz
          exact ⟨i, j, rfl, rfl, ⟨hz.1.1.1, hz.1.1.2, hz.1.2.1, hz.1.2.2, hz.2⟩, fun q hq => gives_lst hW1.dom (outX_gives hW1 z) (dqAll_range i _) hq⟩
        · exact z.elim
      | .int _, .none, _, _, z => exact z.elim
      | .int _, .bool _, _, _, z => exact z.elim
      | .int _, .str _, _, _, z => exact z.elim
      | .int _, .list _, _, _, z => exact z.elim
      | .int _, .tuple _, _, _, z => exact z.elim
      | .none, _, _, _, z => exact z.elim
      | .bool _, _, _, _, z => exact z.elim
      | .str _, _, _, _, z => exact z.elim
      | .list _, _, _, _, z => exact z.elim
      | .tuple _, _, _, _, z => exact z.elim
  | .oix i x, sc, fb, e, h, Y, F, a, gd => by
    cases e <;> try (exact absurd h Bool.false_ne_true)
    rename_i v y pos
    cases v <;> try (exact absurd h Bool.false_ne_true)
    simp only [E.chk, Bool.and_eq_true, decide_eq_true_eq] at h
    obtain ⟨h1, h2, h3, h4⟩ := h
    obtain ⟨v1, v2, v3⟩ := vis_of a.s h3
    refine PE.imp (pe_ix ix_list (pe_var (by rw [a.n]; exact h2) v1 v2 v3) (sndE x sc fb _ h4 Y F a gd) (ixNo h1)) fun σ H Q q => ?_
    obtain ⟨w, st, env, hE, hW, q⟩ := q
    simp only [E.ev] at q
    obtain ⟨ps, q1, q⟩ := own_inv q
    obtain ⟨la, vs, g1, g2, g3, g4, g5, g6⟩ := hE.own i ps q1
    refine ⟨.ref la, g1, one_read hE hW q fun p st1 w1 H1 v e1 hE1 hW1 r z => ?_⟩
    cases r with
    | int ki =>
      obtain ⟨d2, e4, z2⟩ := outX_lift z
      obtain ⟨p2, e5, ep⟩ := Option.map_eq_some_iff.mp e4
      subst ep
      obtain ⟨zv, e6, e7⟩ := atI_dq (dpAll_mono (e1.hx hW).hid g6) e5
      exact ⟨la, vs, ki, zv, rfl, rfl, .inl (.inl (e1.keep _ _ g5 g3)), e6, outX_gives hW1 z2 _ _ (Same.refl _) e7⟩
    | _ => exact z.elim
  | .oin c x i, sc, fb, e, h, Y, F, a, gd => by
    cases e <;> try (exact absurd h Bool.false_ne_true)
    rename_i l ops rs pos
    match ops, rs, h with
    | [op], [.Name y p], h =>
      simp only [E.chk, Bool.and_eq_true, decide_eq_true_eq] at h
      obtain ⟨⟨h0, h1⟩, h2, h3, h4⟩ := h
      subst h1
      refine PE.imp (oinE c x i sc fb l y p pos h0 h2 h3 Y F a (sndE x sc fb _ h4 Y F a gd)) fun σ H Q q => q
  | .olen i, sc, fb, e, h, Y, F, a, gd => by
    cases e <;> try (exact absurd h Bool.false_ne_true)
    rename_i fn xs kw pos
    cases fn <;> try (exact absurd h Bool.false_ne_true)
    match xs, kw, h with
    | [.Name y p], [], h =>
      simp only [E.chk, Bool.and_eq_true, decide_eq_true_eq] at h
      obtain ⟨h1, h2, h3⟩ := h
      obtain ⟨g1, g2, g3, g4⟩ := glo_of a.s h1
      obtain ⟨v1, v2, v3⟩ := vis_of a.s h3
      refine PE.imp (pe_callB call_len_seq g2 (by rw [g1]; exact a.ok.g.free "len" (by decide)) (by rw [g1]; exact PySem.boot_len) (pa_cons (pe_var (by rw [a.n]; exact h2) v1 v2 v3) pa_nil rfl) g4 g3 rfl rfl) fun σ H Q q => ?_
      obtain ⟨w, st, env, hE, hW, q⟩ := q
      simp only [E.ev] at q
      obtain ⟨ps, q1, q⟩ := own_inv q
      obtain ⟨la, vs, f1, f2, f3, f4, f5, f6⟩ := hE.own i ps q1
      refine ⟨.ref la, f1, la, vs, rfl, .inl (.inl (.inl f5)), ?_⟩
      rw [f6.length]
      exact outX_gives hW q _ _ (Same.refl _) (.int _)
  | .call f g es, sc, fb, e, h, Y, F, a, gd => by
    cases e <;> try (exact absurd h Bool.false_ne_true)
    rename_i fn xs kw pos
    cases fn <;> try (exact absurd h Bool.false_ne_true)
    cases kw <;> try (exact absurd h Bool.false_ne_true)
    simp only [E.chk, Bool.and_eq_true] at h
    obtain ⟨h2, h3⟩ := h
    exact callE f g es sc fb _ _ _ _ h2 h3 Y F a gd.1 (sndEs es sc fb _ h3 Y F a gd.2)
  | .blt f es, sc, fb, e, h, Y, F, a, gd => by
    cases e <;> try (exact absurd h Bool.false_ne_true)
    rename_i fn xs kw pos
    cases fn <;> try (exact absurd h Bool.false_ne_true)
    cases kw <;> try (exact absurd h Bool.false_ne_true)
    simp only [E.chk, Bool.and_eq_true] at h
    obtain ⟨h1, h2, h3⟩ := h
    exact bltE f es sc fb _ _ _ _ h1 h2 h3 Y F a (sndEs es sc fb _ h3 Y F a gd)
  | .isi x t, sc, fb, e, h, Y, F, a, gd => by
    cases e <;> try (exact absurd h Bool.false_ne_true)
    rename_i fn xs kw pos
    cases fn <;> try (exact absurd h Bool.false_ne_true)
    match xs, kw, h with
    | [y, .Name z _], [], h =>
      simp only [E.chk, Bool.and_eq_true] at h
      obtain ⟨h1, h2, h3, h4⟩ := h
      exact isiE x t sc fb _ _ _ _ _ _ h1 h2 h3 Y F a (sndE x sc fb _ h4 Y F a gd)
  | .lc own (.gen vs it t c g), sc, fb, e, h, Y, F, a, gd => by
    cases e <;> try (exact absurd h Bool.false_ne_true)
    rename_i elt gs scope pos
    simp only [E.chk, Bool.and_eq_true, decide_eq_true_eq] at h
    obtain ⟨h1, h2, h3⟩ := h
    obtain ⟨tg, iter, ifs, gs', rfl, hv, hn, g1, g2, g3, g4, g5⟩ := chk0_inv h3
    have B := blkOk_by (N := N) (sc := sc) h2
    rw [← a.n, ← a.s] at B
    have hcalm := a.ok.calm
    have inn : ∀ (s : Shared) (H : Hp) (C : Addr) (cl : List (Str × Addr)) (fp : List Addr), At Γ X k N (relS scope sc) (fun x => scope.names.lookup x == some .cell) (Y.blk s H scope (compEnvC scope cl C Y.env) fp) noE := fun s H C cl fp =>
      ⟨a.ok.blk s H scope _ fp, a.n, by rw [← a.s]; rfl, rfl⟩
    obtain ⟨sl1, sl2⟩ := chkR_slots g g5
    rw [chkR_gs g g5]
    refine PE.imp (pe_lcN (c := ⟨tg, iter, ifs⟩) (cs := gs'.map clOf) (r := crOf Y.K X w0 H0 F vs it t c) (rs := G.crs Y.K X w0 H0 g) (te := tE Y.K X w0 H0 noE (G.elt g).ev) (own := ownN Y.N own) hcalm a.ok.nd (sndI it sc fb tg iter g1 Y F a gd.1) (by rw [a.n] at B ⊢; exact B) (by rw [ownN_ix]; exact hv) (sl2 Y.K X w0 H0)
      (fun s H C cl fp => sndT rfl (inn s H C cl fp).n a.ok.nd (inn s H C cl fp).s rfl hcalm t tg g2) (fun s H C cl fp => sndL c _ _ ifs g4 _ noE (inn s H C cl fp) gd.2.1) (fun s H C cl fp => (sndR g vs _ _ elt gs' g5 _ (inn s H C cl fp) gd.2.2).1)
      (fun s H C cl fp => (sndR g vs _ _ elt gs' g5 _ (inn s H C cl fp) gd.2.2).2) (foldedNo hn)) fun σ H Q q => ?_
    obtain ⟨w, st, env, hE, hW, q⟩ := q
    exact lcN_dat ⟨g3, sl1⟩ hE hW q
  | .lc own (.fin _), sc, fb, e, h, Y, F, a, gd => by
    cases e <;> try (exact absurd h Bool.false_ne_true)
    rename_i elt gs scope pos
    simp only [E.chk, Bool.and_eq_true, decide_eq_true_eq] at h
    obtain ⟨h1, h2, h3⟩ := h
    exact absurd h3 Bool.false_ne_true
termination_by ir => (sizeOf ir, 0)
decreasing_by all_goals (simp_wf; omega)
theorem sndT2 : ∀ (ir : Fb.E) (sc : Scope) (fb : Str → Bool) (e : Expr), ir.chk Γ N sc fb e = true → ∀ (Y : Cx) (F : XK), At Γ X k N sc fb Y F → ir.good (XOk.G Γ X k Y) → PT Y e (tT Y.K X w0 H0 F (ir.tst))
  | .not x, sc, fb, e, h, Y, F, a, gd => by
    cases e <;> try (exact absurd h Bool.false_ne_true)
    rename_i op y pos
    cases op <;> try (exact absurd h Bool.false_ne_true)
    simp only [E.chk] at h
    refine PT.imp (pt_not (sndT2 x sc fb _ h Y F a gd)) fun σ H Q q => ?_
    obtain ⟨w, st, env, hE, hW, q⟩ := q
    simp only [E.tst] at q
    exact tT_go hE hW q fun b st1 w1 H1 e1 hE1 hW1 z => outX_now hW1 z
  | .and x y, sc, fb, e, h, Y, F, a, gd => by
    cases e <;> try (exact absurd h Bool.false_ne_true)
    rename_i op vs pos
    cases op <;> try (exact absurd h Bool.false_ne_true)
    match vs, h with
    | u :: v :: r, h => exact (sndW (.and x y) sc fb u v r pos .And h Y F a gd).pt
  | .or x y, sc, fb, e, h, Y, F, a, gd => by
    cases e <;> try (exact absurd h Bool.false_ne_true)
    rename_i op vs pos
    cases op <;> try (exact absurd h Bool.false_ne_true)
    match vs, h with
    | u :: v :: r, h => exact (sndW (.or x y) sc fb u v r pos .Or h Y F a gd).pt
  | .cmp c x y, sc, fb, e, h, Y, F, a, gd => by
    cases e <;> try (exact absurd h Bool.false_ne_true)
    rename_i l ops rs pos
    match ops, rs, h with
    | [op], [r], h =>
      simp only [E.chk, Bool.and_eq_true, decide_eq_true_eq] at h
      obtain ⟨h1, h2, h3, h4⟩ := h
      subst h1
      refine PT.imp (pt_cmpR (cm_ok a.ok.roomy c) (sndE x sc fb _ h3 Y F a gd.1) (sndE y sc fb _ h4 Y F a gd.2) (marksNo h2)) fun σ H Q q => ?_
      obtain ⟨w, st, env, hE, hW, q⟩ := q
      simp only [E.tst] at q
      exact cmp_read hE hW q
  | .chn c c' x y z, sc, fb, e, h, Y, F, a, gd => by
    cases e <;> try (exact absurd h Bool.false_ne_true)
    rename_i l ops rs pos
    match ops, rs, h with
    | [op, op'], [r, r'], h =>
      simp only [E.chk, Bool.and_eq_true, decide_eq_true_eq] at h
      obtain ⟨h1, h2, h3, h4, h5, h6⟩ := h
      subst h1 h2
      refine PT.imp (pt_chain (cm_ok a.ok.roomy c) (cm_ok a.ok.roomy c') (sndE x sc fb _ h4 Y F a gd.1) (sndE y sc fb _ h5 Y F a gd.2.1) (sndE z sc fb _ h6 Y F a gd.2.2) (marksNo (op := c'.ast) h3)) fun σ H Q q => ?_
      obtain ⟨w, st, env, hE, hW, q⟩ := q
      simp only [E.tst] at q
      refine chn_read (R := fun x H' => ∃ k, x = .bl k ∧ Q k H') (en := fun o => M.lift o) (no := M.pure false) hE hW q (fun st w H d z => ⟨false, rfl, outX_now d z⟩) fun st w H o d z => ?_
      obtain ⟨b, e1, z1⟩ := outX_lift z
      refine ⟨b, e1, fun H' kk => ⟨b, rfl, ?_⟩⟩
      obtain ⟨e2, d2⟩ := Ext.grown (H' := H') d kk
      exact z1 w H' e2 d2
  | .isi x t, sc, fb, e, h, Y, F, a, gd => by
    cases e <;> try (exact absurd h Bool.false_ne_true)
    rename_i fn xs kw pos
    cases fn <;> try (exact absurd h Bool.false_ne_true)
    match xs, kw, h with
    | [y, .Name z _], [], h =>
      simp only [E.chk, Bool.and_eq_true] at h
      obtain ⟨h1, h2, h3, h4⟩ := h
      refine PT.imp (pt_val (isiE x t sc fb _ _ _ _ _ _ h1 h2 h3 Y F a (sndE x sc fb _ h4 Y F a gd))) fun σ H Q q => ?_
      obtain ⟨w, st, env, hE, hW, q⟩ := q
      refine ⟨w, st, env, hE, hW, ?_⟩
      simp only [E.tst] at q
      simp only [E.ev]
      cases e1 : x.ev env st with
      | ok d st1 =>
        unfold M.bind at q ⊢
        rw [e1] at q ⊢
        cases d with
        | d p => exact fun w' H' e2 d2 v r => by
                  cases r
                  exact ⟨_, rfl, q w' H' e2 d2⟩
        | _ => exact q.elim
      | exc c p st1 =>
        unfold M.bind at q ⊢
        rw [e1] at q ⊢
        exact q
      | bad =>
        unfold M.bind at q
        rw [e1] at q
        exact q.elim
  | .call f g es, sc, fb, e, h, Y, F, a, gd => by
    cases e <;> try (exact absurd h Bool.false_ne_true)
    rename_i fn xs kw pos
    cases fn <;> try (exact absurd h Bool.false_ne_true)
    cases kw <;> try (exact absurd h Bool.false_ne_true)
    simp only [E.chk, Bool.and_eq_true] at h
    obtain ⟨h2, h3⟩ := h
    refine PT.imp (pt_truth (callE f g es sc fb _ _ _ _ h2 h3 Y F a gd.1 (sndEs es sc fb _ h3 Y F a gd.2)) (fun _ => rfl)) fun σ H Q q => ?_
    obtain ⟨w, st, env, hE, hW, q⟩ := q
    simp only [E.tst] at q
    exact truth_read (m := (E.call f g es).ev) hE hW (by simp only [E.ev]; exact q)
  | .blt f es, sc, fb, e, h, Y, F, a, gd => by
    cases e <;> try (exact absurd h Bool.false_ne_true)
    rename_i fn xs kw pos
    cases fn <;> try (exact absurd h Bool.false_ne_true)
    cases kw <;> try (exact absurd h Bool.false_ne_true)
    simp only [E.chk, Bool.and_eq_true] at h
    obtain ⟨h1, h2, h3⟩ := h
    refine PT.imp (pt_truth (bltE f es sc fb _ _ _ _ h1 h2 h3 Y F a (sndEs es sc fb _ h3 Y F a gd)) (fun _ => rfl)) fun σ H Q q => ?_
    obtain ⟨w, st, env, hE, hW, q⟩ := q
    simp only [E.tst] at q
    exact truth_read (m := (E.blt f es).ev) hE hW (by simp only [E.ev]; exact q)
  | .var i, sc, fb, e, h, Y, F, a, gd => by
    cases e <;> try (exact absurd h Bool.false_ne_true)
    refine PT.imp (pt_truth (sndE (.var i) sc fb _ h Y F a trivial) (fun _ => rfl)) fun σ H Q q => ?_
    obtain ⟨w, st, env, hE, hW, q⟩ := q
    simp only [E.tst] at q
    exact truth_read (m := (E.var i).ev) hE hW (by simp only [E.ev]; exact q)
  | .cst _, _, _, _, _, _, _, _, _ => ⟨fun _ _ _ _ _ _ q => by obtain ⟨_, _, _, _, _, q⟩ := q; exact q.elim⟩
  | .rev _, _, _, _, _, _, _, _, _ => ⟨fun _ _ _ _ _ _ q => by obtain ⟨_, _, _, _, _, q⟩ := q; exact q.elim⟩
  | .lrg _ _, _, _, _, _, _, _, _, _ => ⟨fun _ _ _ _ _ _ q => by obtain ⟨_, _, _, _, _, q⟩ := q; exact q.elim⟩
  | .oix _ _, _, _, _, _, _, _, _, _ => ⟨fun _ _ _ _ _ _ q => by obtain ⟨_, _, _, _, _, q⟩ := q; exact q.elim⟩
  | .olen _, _, _, _, _, _, _, _, _ => ⟨fun _ _ _ _ _ _ q => by obtain ⟨_, _, _, _, _, q⟩ := q; exact q.elim⟩
  | .glo _ _, _, _, _, _, _, _, _, _ => ⟨fun _ _ _ _ _ _ q => by obtain ⟨_, _, _, _, _, q⟩ := q; exact q.elim⟩
  | .tup _, _, _, _, _, _, _, _, _ => ⟨fun _ _ _ _ _ _ q => by obtain ⟨_, _, _, _, _, q⟩ := q; exact q.elim⟩
  | .lst _, _, _, _, _, _, _, _, _ => ⟨fun _ _ _ _ _ _ q => by obtain ⟨_, _, _, _, _, q⟩ := q; exact q.elim⟩
  | .nref _, _, _, _, _, _, _, _, _ => ⟨fun _ _ _ _ _ _ q => by obtain ⟨_, _, _, _, _, q⟩ := q; exact q.elim⟩
  | .bin _ _ _, _, _, _, _, _, _, _, _ => ⟨fun _ _ _ _ _ _ q => by obtain ⟨_, _, _, _, _, q⟩ := q; exact q.elim⟩
  | .neg _, _, _, _, _, _, _, _, _ => ⟨fun _ _ _ _ _ _ q => by obtain ⟨_, _, _, _, _, q⟩ := q; exact q.elim⟩
  | .ife _ _ _, _, _, _, _, _, _, _, _ => ⟨fun _ _ _ _ _ _ q => by obtain ⟨_, _, _, _, _, q⟩ := q; exact q.elim⟩
  | .ix x y, sc, fb, e, h, Y, F, a, gd => by
    cases e <;> try (exact absurd h Bool.false_ne_true)
    refine PT.imp (pt_truth (sndE (.ix x y) sc fb _ h Y F a gd) (fun _ => rfl)) fun σ H Q q => ?_
    obtain ⟨w, st, env, hE, hW, q⟩ := q
    simp only [E.tst] at q
    exact truth_read (m := (E.ix x y).ev) hE hW (by simp only [E.ev]; exact q)
  | .oin c x i, sc, fb, e, h, Y, F, a, gd => by
    cases e <;> try (exact absurd h Bool.false_ne_true)
    rename_i l ops rs pos
    match ops, rs, h with
    | [op], [.Name y p], h =>
      simp only [E.chk, Bool.and_eq_true, decide_eq_true_eq] at h
      obtain ⟨⟨h0, h1⟩, h2, h3, h4⟩ := h
      subst h1
      exact oinT c x i sc fb l y p pos h0 h2 h3 Y F a (sndE x sc fb _ h4 Y F a gd)
  | .cut _ _ _, _, _, _, _, _, _, _, _ => ⟨fun _ _ _ _ _ _ q => by obtain ⟨_, _, _, _, _, q⟩ := q; exact q.elim⟩
  | .lc _ _, _, _, _, _, _, _, _, _ => ⟨fun _ _ _ _ _ _ q => by obtain ⟨_, _, _, _, _, q⟩ := q; exact q.elim⟩
termination_by ir => (sizeOf ir, 2)
decreasing_by all_goals (simp_wf; omega)
theorem sndW : ∀ (ir : Fb.E) (sc : Scope) (fb : Str → Bool) (u v : Expr) (r : List Expr) (pos : Pos) (op : BoolOp), ir.chk Γ N sc fb (.BoolOp op (u :: v :: r) pos) = true → ∀ (Y : Cx) (F : XK), At Γ X k N sc fb Y F → ir.good (XOk.G Γ X k Y) → PW Y (.BoolOp op (u :: v :: r) pos) (tT Y.K X w0 H0 F (ir.tst))
  | .and x y, sc, fb, u, v, r, pos, op, h, Y, F, a, gd => by
    cases op with
    | Or => exact absurd h Bool.false_ne_true
    | And =>
      simp only [E.chk, Bool.and_eq_true] at h
      have hb : PW Y (.BoolOp .And (v :: r) pos) (tT Y.K X w0 H0 F (y.tst)) := by
        cases r with
        | nil => exact pw_and1 (sndT2 y sc fb _ h.2 Y F a gd.2)
        | cons v2 r2 => exact sndW y sc fb v v2 r2 pos .And h.2 Y F a gd.2
      refine PW.imp (pw_and (sndT2 x sc fb _ h.1 Y F a gd.1) hb) fun σ H Q q => ?_
      obtain ⟨w, st, env, hE, hW, q⟩ := q
      simp only [E.tst] at q
      refine tT_go hE hW q fun b st1 w1 H1 e1 hE1 hW1 z => ?_
      cases b with
      | true =>
        rw [if_pos rfl] at z ⊢
        exact ⟨w1, st1, env, hE1, hW1, z⟩
      | false =>
        rw [if_neg Bool.false_ne_true] at z ⊢
        exact outX_now hW1 z
  | .or x y, sc, fb, u, v, r, pos, op, h, Y, F, a, gd => by
    cases op with
    | And => exact absurd h Bool.false_ne_true
    | Or =>
      simp only [E.chk, Bool.and_eq_true] at h
      have hb : PW Y (.BoolOp .Or (v :: r) pos) (tT Y.K X w0 H0 F (y.tst)) := by
        cases r with
        | nil => exact pw_or1 (sndT2 y sc fb _ h.2 Y F a gd.2)
        | cons v2 r2 => exact sndW y sc fb v v2 r2 pos .Or h.2 Y F a gd.2
      refine PW.imp (pw_or (sndT2 x sc fb _ h.1 Y F a gd.1) hb) fun σ H Q q => ?_
      obtain ⟨w, st, env, hE, hW, q⟩ := q
      simp only [E.tst] at q
      refine tT_go hE hW q fun b st1 w1 H1 e1 hE1 hW1 z => ?_
      cases b with
      | true =>
        rw [if_pos rfl] at z ⊢
        exact outX_now hW1 z
      | false =>
        rw [if_neg Bool.false_ne_true] at z ⊢
        exact ⟨w1, st1, env, hE1, hW1, z⟩
  | .var _, _, _, _, _, _, _, _, h, _, _, _, _ => absurd h Bool.false_ne_true
  | .cst _, _, _, _, _, _, _, _, h, _, _, _, _ => absurd h Bool.false_ne_true
  | .glo _ _, _, _, _, _, _, _, _, h, _, _, _, _ => absurd h Bool.false_ne_true
  | .rev _, _, _, _, _, _, _, _, h, _, _, _, _ => absurd h Bool.false_ne_true
  | .lrg _ _, _, _, _, _, _, _, _, h, _, _, _, _ => absurd h Bool.false_ne_true
  | .oix _ _, _, _, _, _, _, _, _, h, _, _, _, _ => absurd h Bool.false_ne_true
  | .oin _ _ _, _, _, _, _, _, _, _, h, _, _, _, _ => absurd h Bool.false_ne_true
  | .olen _, _, _, _, _, _, _, _, h, _, _, _, _ => absurd h Bool.false_ne_true
  | .tup _, _, _, _, _, _, _, _, h, _, _, _, _ => absurd h Bool.false_ne_true
  | .lst _, _, _, _, _, _, _, _, h, _, _, _, _ => absurd h Bool.false_ne_true
  | .nref _, _, _, _, _, _, _, _, h, _, _, _, _ => absurd h Bool.false_ne_true
  | .bin _ _ _, _, _, _, _, _, _, _, h, _, _, _, _ => absurd h Bool.false_ne_true
  | .neg _, _, _, _, _, _, _, _, h, _, _, _, _ => absurd h Bool.false_ne_true
  | .not _, _, _, _, _, _, _, _, h, _, _, _, _ => absurd h Bool.false_ne_true
  | .cmp _ _ _, _, _, _, _, _, _, _, h, _, _, _, _ => absurd h Bool.false_ne_true
  | .chn _ _ _ _ _, _, _, _, _, _, _, _, h, _, _, _, _ => absurd h Bool.false_ne_true
  | .ife _ _ _, _, _, _, _, _, _, _, h, _, _, _, _ => absurd h Bool.false_ne_true
  | .ix _ _, _, _, _, _, _, _, _, h, _, _, _, _ => absurd h Bool.false_ne_true
  | .cut _ _ _, _, _, _, _, _, _, _, h, _, _, _, _ => absurd h Bool.false_ne_true
  | .call _ _ _, _, _, _, _, _, _, _, h, _, _, _, _ => absurd h Bool.false_ne_true
  | .blt _ _, _, _, _, _, _, _, _, h, _, _, _, _ => absurd h Bool.false_ne_true
  | .isi _ _, _, _, _, _, _, _, _, h, _, _, _, _ => absurd h Bool.false_ne_true
  | .lc _ _, _, _, _, _, _, _, _, h, _, _, _, _ => absurd h Bool.false_ne_true
termination_by ir => (sizeOf ir, 1)
decreasing_by all_goals (simp_wf; omega)
theorem sndEs : ∀ (es : Fb.Es) (sc : Scope) (fb : Str → Bool) (xs : List Expr), es.chk Γ N sc fb xs = true → ∀ (Y : Cx) (F : XK), At Γ X k N sc fb Y F → es.good (XOk.G Γ X k Y) → PA Y xs (tA Y.K X w0 H0 F (es.ev))
  | .nil, sc, fb, xs, h, Y, F, a, gd => by
    cases xs <;> try (exact absurd h Bool.false_ne_true)
    refine PA.imp pa_nil fun σ H Q q => ?_
    obtain ⟨w, st, env, hE, hW, q⟩ := q
    simp only [Es.ev] at q
    exact outX_now hW q [] trivial
  | .cons e es, sc, fb, xs, h, Y, F, a, gd => by
    cases xs <;> try (exact absurd h Bool.false_ne_true)
    simp only [Es.chk, Bool.and_eq_true] at h
    refine PA.imp (pa_cons (sndE e sc fb _ h.2.1 Y F a gd.1) (sndEs es sc fb _ h.2.2 Y F a gd.2) (star_cons h.1)) fun σ H Q q => ?_
    obtain ⟨w, st, env, hE, hW, q⟩ := q
    simp only [Es.ev] at q
    exact tE_go hE hW q fun x st1 w1 H1 v e1 hE1 hW1 r z => tA_go hE1 hW1 z fun ys st2 w2 H2 vs e2 hE2 hW2 r2 z2 => outX_now hW2 z2 _ ⟨rep_mono (e2.hx hW1) r, r2⟩
termination_by ir => (sizeOf ir, 0)
decreasing_by all_goals (simp_wf; omega)
theorem sndO : ∀ (o : Fb.Oe) (sc : Scope) (fb : Str → Bool) (x : Option Expr), o.chk Γ N sc fb x = true → ∀ (Y : Cx) (F : XK), At Γ X k N sc fb Y F → o.good (XOk.G Γ X k Y) → PO Y x (tO Y.K X w0 H0 F (o.prt))
  | .no, sc, fb, x, h, Y, F, a, gd => by
    cases x <;> try (exact absurd h Bool.false_ne_true)
    refine PO.imp po_none fun σ H Q q => ?_
    obtain ⟨w, st, env, hE, hW, q⟩ := q
    simp only [Oe.prt] at q
    exact outX_now hW q
  | .yes e, sc, fb, x, h, Y, F, a, gd => by
    cases x <;> try (exact absurd h Bool.false_ne_true)
    simp only [Oe.chk] at h
    refine PO.imp (po_some (sndE e sc fb _ h Y F a gd)) fun σ H Q q => ?_
    obtain ⟨w, st, env, hE, hW, q⟩ := q
    simp only [Oe.prt] at q
    refine one_read hE hW q fun p st1 w1 H1 v e1 hE1 hW1 r z => ?_
    obtain ⟨o, e2, z1⟩ := outX_lift z
    cases r <;> simp [partOf] at e2
    subst e2
    exact ⟨_, rfl, outX_now hW1 z1⟩
termination_by ir => (sizeOf ir, 0)
decreasing_by all_goals (simp_wf; omega)
theorem sndL : ∀ (o : Fb.Oe) (sc : Scope) (fb : Str → Bool) (x : List Expr), o.chkL Γ N sc fb x = true → ∀ (Y : Cx) (F : XK), At Γ X k N sc fb Y F → o.good (XOk.G Γ X k Y) → PTs Y x (tT Y.K X w0 H0 F (o.ok))
  | .no, sc, fb, x, h, Y, F, a, gd => by
    cases x <;> try (exact absurd h Bool.false_ne_true)
    refine PTs.imp pts_nil fun σ H Q q => ?_
    obtain ⟨w, st, env, hE, hW, q⟩ := q
    simp only [Oe.ok] at q
    exact outX_now hW q
  | .yes e, sc, fb, x, h, Y, F, a, gd => by
    match x, h with
    | [y], h =>
      simp only [Oe.chkL] at h
      refine PTs.imp (pts_one (sndT2 e sc fb _ h Y F a gd)) fun σ H Q q => ?_
      obtain ⟨w, st, env, hE, hW, q⟩ := q
      simp only [Oe.ok] at q
      exact ⟨w, st, env, hE, hW, q⟩
termination_by ir => (sizeOf ir, 0)
decreasing_by all_goals (simp_wf; omega)
/-- the clauses behind the first one -/
theorem sndR : ∀ (g : Fb.G) (us : List Nat) (si : Scope) (fi : Str → Bool) (elt : Expr) (gs : List Comprehension), g.chkR Γ N us si fi elt gs = true → ∀ (Y : Cx), At Γ X k N si fi Y noE → g.good (XOk.G Γ X k Y) →
    ClsOk Y (gs.map clOf) (G.crs Y.K X w0 H0 g) ∧ PE Y elt (tE Y.K X w0 H0 noE (G.elt g).ev)
  | .fin e, us, si, fi, elt, gs, h, Y, a, gd => by
    cases gs with
    | nil =>
      simp only [G.chkR] at h
      exact ⟨.nil, sndE e si fi elt h Y noE a gd⟩
    | cons _ _ => exact absurd h Bool.false_ne_true
  | .gen vs it t c g, us, si, fi, elt, gs, h, Y, a, gd => by
    obtain ⟨tg, iter, ifs, gs', rfl, h1, hn, g1, g2, g3, g4, g5⟩ := chkR_inv h
    obtain ⟨r1, r2⟩ := sndR g vs si fi elt gs' g5 Y a gd.2.2
    refine ⟨.cons ⟨sndI it si fi tg iter g1 Y noE a gd.1, sndT rfl a.n a.ok.nd a.s a.f a.ok.calm t tg g2, sndL c si fi ifs g4 Y noE a gd.2.1, fun env x => foldedNo hn x⟩ ((chkR_slots g g5).2 Y.K X w0 H0) r1, r2⟩
termination_by ir => (sizeOf ir, 0)
decreasing_by all_goals (simp_wf; omega)
theorem sndI : ∀ (it : Fb.It) (sc : Scope) (fb : Str → Bool) (tg x : Expr), it.chk Γ N sc fb tg x = true → ∀ (Y : Cx) (F : XK), At Γ X k N sc fb Y F → it.good (XOk.G Γ X k Y) → PI Y tg x (tI Y.K X w0 H0 F (it.ev))
  | .seq e, sc, fb, tg, x, h, Y, F, a, gd => by
    unfold It.chk at h
    simp only [Bool.and_eq_true] at h
    refine PI.imp (pi_seq (sndE e sc fb _ h.2 Y F a gd)) fun σ H R q => ?_
    obtain ⟨w, st, env, hE, hW, q⟩ := q
    simp only [It.ev] at q
    refine one_read hE hW q fun p st1 w1 H1 v e1 hE1 hW1 r z => ?_
    obtain ⟨items, e2, z1⟩ := outX_lift z
    cases r with
    | lst h1 h2 =>
      cases e2
      exact .inl ⟨_, rfl, ⟨_, .inl (.inl (hide_sub _ _ h1))⟩, outX_now hW1 z1 _ (walk_list h1 h2)⟩
    | tup h1 h2 =>
      cases e2
      exact .inr ⟨_, rfl, ⟨_, seqT_mono hide_sub h1⟩, outX_now hW1 z1 _ (walk_tup h1 h2)⟩
    | _ => simp [seqP] at e2
  | .rng1 e, sc, fb, tg, x, h, Y, F, a, gd => by
    cases x <;> try (exact absurd h Bool.false_ne_true)
    rename_i fn xs kw pos
    cases fn <;> try (exact absurd h Bool.false_ne_true)
    match xs, kw, h with
    | [y], [], h =>
      simp only [It.chk, Bool.and_eq_true] at h
      obtain ⟨g1, g2, g3, g4⟩ := glo_of a.s h.1
      subst g1
      refine PI.imp (pi_range1 g2 (a.ok.g.free "range" (by decide)) (pa_cons (sndE e sc fb _ h.2.2 Y F a gd) pa_nil (star_cons h.2.1)) (star_cons h.2.1)) fun σ H R q => ?_
      obtain ⟨w, st, env, hE, hW, q⟩ := q
      simp only [It.ev] at q
      refine one_read hE hW q fun p st1 w1 H1 v e1 hE1 hW1 r z => ?_
      cases r with
      | int j =>
        unfold rangeM at z
        simp only at z
        split at z
        · rename_i hz
          simp only [Bool.and_eq_true, rng62, decide_eq_true_eq] at hz
          refine ⟨j, rfl, hz.1.2.1, hz.1.2.2, ?_⟩
          have := outX_now hW1 z (Itr 0 (j - 0).toNat) (walk_rng _ _)
          rwa [Int.sub_zero] at this
        · exact z.elim
      | _ => exact z.elim
  | .rng2 e e2, sc, fb, tg, x, h, Y, F, a, gd => by
    cases x <;> try (exact absurd h Bool.false_ne_true)
    rename_i fn xs kw pos
    cases fn <;> try (exact absurd h Bool.false_ne_true)
    match xs, kw, h with
    | [y, y2], [], h =>
      simp only [It.chk, Bool.and_eq_true] at h
      obtain ⟨g1, g2, g3, g4⟩ := glo_of a.s h.1
      subst g1
      refine PI.imp (pi_range2 g2 (a.ok.g.free "range" (by decide)) (pa_cons (sndE e sc fb _ h.2.2.2.1 Y F a gd.1) (pa_cons (sndE e2 sc fb _ h.2.2.2.2 Y F a gd.2) pa_nil (star_cons h.2.2.1)) (star_cons h.2.1)) (by rw [star_cons h.2.1, star_cons h.2.2.1]; rfl) (star_cons h.2.2.1)) fun σ H R q => ?_
      obtain ⟨w, st, env, hE, hW, q⟩ := q
      simp only [It.ev] at q
      refine two_read hE hW q fun p p2 st1 w1 H1 v v2 e1 hE1 hW1 r r2 z => ?_
      match p, p2, r, r2, z with
      | .int i, .int j, .int _, .int _, z =>
        unfold rangeM at z
        simp only at z
        split at z
        · rename_i hz
          simp only [Bool.and_eq_true, rng62, decide_eq_true_eq] at hz
          exact ⟨i, j, rfl, ⟨hz.1.1.1, hz.1.1.2, hz.1.2.1, hz.1.2.2⟩, outX_now hW1 z _ (walk_rng _ _)⟩
        · exact z.elim
      | .int _, .none, _, _, z => exact z.elim
      | .int _, .bool _, _, _, z => exact z.elim
      | .int _, .str _, _, _, z => exact z.elim
      | .int _, .list _, _, _, z => exact z.elim
      | .int _, .tuple _, _, _, z => exact z.elim
      | .none, _, _, _, z => exact z.elim
      | .bool _, _, _, _, z => exact z.elim
      | .str _, _, _, _, z => exact z.elim
      | .list _, _, _, _, z => exact z.elim
      | .tuple _, _, _, _, z => exact z.elim
  | .rng3 e e2 e3, sc, fb, tg, x, h, Y, F, a, gd => by
    cases x <;> try (exact absurd h Bool.false_ne_true)
    rename_i fn xs kw pos
    cases fn <;> try (exact absurd h Bool.false_ne_true)
    match xs, kw, h with
    | [y, y2, y3], [], h =>
      simp only [It.chk, Bool.and_eq_true] at h
      obtain ⟨h0, h1, h2, h3, h4, h5, h6⟩ := h
      obtain ⟨g1, g2, g3, g4⟩ := glo_of a.s h0
      subst g1
      refine PI.imp (pi_range3 g2 (a.ok.g.free "range" (by decide)) (pa_cons (sndE e sc fb _ h4 Y F a gd.1) (pa_cons (sndE e2 sc fb _ h5 Y F a gd.2.1) (pa_cons (sndE e3 sc fb _ h6 Y F a gd.2.2) pa_nil (star_cons h3)) (star_cons h2)) (star_cons h1)) (star_cons h1) (star_none (by simp [h2, h3]))) fun σ H R q => ?_
      obtain ⟨w, st, env, hE, hW, q⟩ := q
      simp only [It.ev] at q
      refine tE_go hE hW q fun x st1 w1 H1 v e1 hE1 hW1 r z => tE_go hE1 hW1 z fun x2 st2 w2 H2 v2 e2 hE2 hW2 r2 z => tE_go hE2 hW2 z fun x3 st3 w3 H3 v3 e3 hE3 hW3 r3 z => ?_
      obtain ⟨p1, hp1, z1⟩ := outX_need z
      obtain ⟨p2, hp2, z2⟩ := outX_need z1
      obtain ⟨p3, hp3, z⟩ := outX_need z2
      subst hp1 hp2 hp3
      have key : ∃ i j k, p1 = .int i ∧ p2 = .int j ∧ p3 = .int k ∧ outX Y.K X F w3 H3 (range3M i j k st3) fun items _ w' H' => ∀ J, Walk Y.K J items w' H' → R J H' := by
        cases p1 <;> try (exact z.elim)
        cases p2 <;> try (exact z.elim)
        cases p3 <;> try (exact z.elim)
        exact ⟨_, _, _, rfl, rfl, rfl, z⟩
      obtain ⟨i, j, kk, rfl, rfl, rfl, zz⟩ := key
      cases r; cases r2; cases r3
      unfold range3M at zz
      split at zz
      · rename_i hz
        simp only [Bool.and_eq_true, decide_eq_true_eq] at hz
        obtain ⟨z1, z2, z3, z4, z5⟩ := hz
        exact ⟨i, j, kk, _, rfl, ⟨z1, z2, z3, z4⟩, outX_now hW3 zz _ (walk_rng3 _ _ _)⟩
      · exact zz.elim
  | .zip e e2, sc, fb, tg, x, h, Y, F, a, gd => by
    cases x <;> try (cases tg <;> exact absurd h Bool.false_ne_true)
    rename_i fn xs kw pos
    cases fn <;> try (cases tg <;> exact absurd h Bool.false_ne_true)
    cases tg <;> try (exact absurd h Bool.false_ne_true)
    match xs, kw, h with
    | [y, y2], [], h =>
      simp only [It.chk, Bool.and_eq_true] at h
      obtain ⟨g1, g2, g3, g4⟩ := glo_of a.s h.1
      subst g1
      refine PI.imp (RZ.pi_zipA g2 (a.ok.g.free "zip" (by decide)) (pa_cons (sndE e sc fb _ h.2.2.2.1 Y F a gd.1) (pa_cons (sndE e2 sc fb _ h.2.2.2.2 Y F a gd.2) pa_nil (star_cons h.2.2.1)) (star_cons h.2.1)) (star_cons h.2.1) (star_none (by simp [h.2.2.1]))) fun σ H R q => ?_
      obtain ⟨w, st, env, hE, hW, q⟩ := q
      simp only [It.ev] at q
      refine two_read hE hW q fun p p2 st1 w1 H1 v v2 e1 hE1 hW1 r r2 z => ?_
      match p, p2, r, r2, z with
      | .tuple i, .tuple j, .tup h1 h2, .tup h3 h4, z => exact ⟨_, _, _, _, rfl, .inr ⟨seqT_mono hide_sub h1, seqT_mono hide_sub h3, outX_now hW1 z _ (walk_zipT h1 h2 h3 h4)⟩⟩
      | .list i, .list j, .lst h1 h2, .lst h3 h4, z => exact ⟨_, _, _, _, rfl, .inl ⟨.inl (.inl (hide_sub _ _ h1)), .inl (.inl (hide_sub _ _ h3)), outX_now hW1 z _ (walk_zip h1 h2 h3 h4)⟩⟩
      | .tuple _, .none, _, _, z => exact z.elim
      | .tuple _, .bool _, _, _, z => exact z.elim
      | .tuple _, .str _, _, _, z => exact z.elim
      | .tuple _, .int _, _, _, z => exact z.elim
      | .tuple _, .list _, _, _, z => exact z.elim
      | .list _, .none, _, _, z => exact z.elim
      | .list _, .bool _, _, _, z => exact z.elim
      | .list _, .str _, _, _, z => exact z.elim
      | .list _, .int _, _, _, z => exact z.elim
      | .list _, .tuple _, _, _, z => exact z.elim
      | .none, _, _, _, z => exact z.elim
      | .bool _, _, _, _, z => exact z.elim
      | .str _, _, _, _, z => exact z.elim
      | .int _, _, _, _, z => exact z.elim
  | .enum e, sc, fb, tg, x, h, Y, F, a, gd => by
    cases x <;> try (cases tg <;> exact absurd h Bool.false_ne_true)
    rename_i fn xs kw pos
    cases fn <;> try (cases tg <;> exact absurd h Bool.false_ne_true)
    cases tg <;> try (exact absurd h Bool.false_ne_true)
    match xs, kw, h with
    | [y], [], h =>
      simp only [It.chk, Bool.and_eq_true] at h
      obtain ⟨g1, g2, g3, g4⟩ := glo_of a.s h.1
      subst g1
      refine PI.imp (pi_enumA g2 (a.ok.g.free "enumerate" (by decide)) (pa_cons (sndE e sc fb _ h.2.2 Y F a gd) pa_nil (star_cons h.2.1)) (star_cons h.2.1)) fun σ H R q => ?_
      obtain ⟨w, st, env, hE, hW, q⟩ := q
      simp only [It.ev] at q
      refine one_read hE hW q fun p st1 w1 H1 v e1 hE1 hW1 r z => ?_
      cases r with
      | lst h1 h2 => exact ⟨_, _, rfl, .inl ⟨.inl (.inl (hide_sub _ _ h1)), outX_now hW1 z _ (walk_enum h1 h2)⟩⟩
      | tup h1 h2 => exact ⟨_, _, rfl, .inr ⟨seqT_mono hide_sub h1, outX_now hW1 z _ (walk_enumT h1 h2)⟩⟩
      | _ => exact z.elim
termination_by ir => (sizeOf ir, 0)
decreasing_by all_goals (simp_wf; omega)
end
end
end Fb

set_option Elab.async false
set_option linter.all false
set_option maxRecDepth 100000
set_option maxHeartbeats 2000000
/-! statements: places, ends, readings -/
namespace Fb
open PySem PySem.Spec PyProof.Rows L2

section
variable {K : PySem.W.Frag} {w0 w w' : Wo} {H0 H H' : Hp} {env : Env} {σ : L2.St} {st : Sto}
theorem set_other {α : Type} {l : List α} {i j : Nat} {x y : α} (h : (l.set i x)[j]? = some y) (n : x ≠ y) : j ≠ i ∧ l[j]? = some y := by
  by_cases e : i = j
  · subst e
    rw [List.getElem?_set] at h
    simp at h
    exact absurd h.2 n
  · rw [List.getElem?_set_ne e] at h
    exact ⟨fun z => e z.symm, h⟩
/-- a new list of the frame's own -/
theorem EnvOk.ownNew {i : Nat} {p : Addr} {vs : List V} {ps : List PyData} (hE : EnvOk K w0 H0 env w σ H) (d : Wd K st w H) (hp : H p = none) (hl : i < env.length) (r : DqAll K (hide w.B H) vs ps) :
    EnvOk K w0 H0 (env.set i (.own ps)) (w.hold p) (σ.set i (some (.ref p))) (upd H p (.lst vs)) ∧ Wd K st (w.hold p) (upd H p (.lst vs)) ∧ HX w H (w.hold p) (upd H p (.lst vs)) := by
  have x : Ext w H (w.hold p) (upd H p (.lst vs)) := Ext.hold hp
  have d' : Wd K st (w.hold p) (upd H p (.lst vs)) := d.hold hp
  have g := hE.go d x
  have hx := x.hx d
  have nm : p ∉ w.μ := fun z => d.dom p (d.sub p z) hp
  have h0 : H0 p = none := by
    cases q : H0 p with
    | none => rfl
    | some o => exact absurd hp (hE.ext.dom p (by rw [q]; simp))
  have ln : i < σ.length := by rw [← hE.len]; exact hl
  refine ⟨⟨g.ext, by rw [List.length_set, List.length_set]; exact hE.len, fun j y q => ?_, fun j qs q => ?_, fun j k qs rs a q1 q2 q3 q4 => ?_⟩, d', hx⟩
  · obtain ⟨e, q⟩ := set_other q (by simp)
    obtain ⟨u, h1, h2⟩ := g.val j y q
    exact ⟨u, by rw [List.getElem?_set_ne (Ne.symm e)]; exact h1, h2⟩
  · by_cases e : i = j
    · subst e
      rw [List.getElem?_set_self hl] at q
      cases q
      exact ⟨p, vs, List.getElem?_set_self ln, .inr rfl, nm, h0, upd_same, dpAll_mono hx.hid r⟩
    · rw [List.getElem?_set_ne e] at q
      obtain ⟨a, us, h1, h2⟩ := g.own j qs q
      exact ⟨a, us, by rw [List.getElem?_set_ne e]; exact h1, h2⟩
  · have cl : ∀ (j : Nat) (qs : List PyData), j ≠ i → (env.set i (.own ps))[j]? = some (.own qs) → (σ.set i (some (.ref p)))[j]? = some (some (.ref a)) → a ≠ p ∧ env[j]? = some (.own qs) ∧ σ[j]? = some (some (.ref a)) := fun j qs e h1 h2 => by
      rw [List.getElem?_set_ne (Ne.symm e)] at h1 h2
      obtain ⟨b, us, f1, _, _, _, f2, _⟩ := hE.own j qs h1
      rw [f1] at h2
      cases h2
      exact ⟨fun z => (by rw [z, hp] at f2; cases f2), h1, f1⟩
    have at_ : (σ.set i (some (.ref p)))[i]? = some (some (.ref p)) := List.getElem?_set_self ln
    by_cases e1 : j = i
    · by_cases e2 : k = i
      · rw [e1, e2]
      · subst e1
        rw [at_] at q3
        cases q3
        exact absurd rfl (cl k rs e2 q2 q4).1
    · by_cases e2 : k = i
      · subst e2
        rw [at_] at q4
        cases q4
        exact absurd rfl (cl j qs e1 q1 q3).1
      · exact hE.apart j k qs rs a (cl j qs e1 q1 q3).2.1 (cl k rs e2 q2 q4).2.1 (cl j qs e1 q1 q3).2.2 (cl k rs e2 q2 q4).2.2
theorem rep_hide {w : Wo} {H H' : Hp} (e : hide w.B H = hide w.B H') {x : D} {v : V} (r : Rep K w H x v) : Rep K w H' x v := rep_mono ⟨List.prefix_rfl, e ▸ Same.refl _⟩ r
theorem reps_hide {w : Wo} {H H' : Hp} (e : hide w.B H = hide w.B H') {x : List D} {v : List V} (r : Reps K w H x v) : Reps K w H' x v := reps_mono ⟨List.prefix_rfl, e ▸ Same.refl _⟩ r
/-- it is written -/
theorem EnvOk.own2 {i : Nat} {ps ps' : List PyData} {a : Addr} {vs' : List V} (hE : EnvOk K w0 H0 env w σ H) (d : Wd K st w H) (q : env[i]? = some (.own ps)) (h1 : σ[i]? = some (some (.ref a))) (h2 : w.B a) (h3 : a ∉ w.μ) (h4 : H0 a = none)
    (h6 : DqAll K (hide w.B H) vs' ps') :
    EnvOk K w0 H0 (env.set i (.own ps')) w σ (upd H a (.lst vs')) ∧ Wd K st w (upd H a (.lst vs')) ∧ HX w H w (upd H a (.lst vs')) := by
  have eh : hide w.B H = hide w.B (upd H a (.lst vs')) := (hide_poke h2).symm
  have hl := (List.getElem?_eq_some_iff.mp q).1
  have back : ∀ (j : Nat) (qs : List PyData), (env.set i (.own ps'))[j]? = some (.own qs) → ∃ rs, env[j]? = some (.own rs) ∧ (j ≠ i → rs = qs) ∧ (j = i → qs = ps') := fun j qs z => by
    by_cases e : i = j
    · subst e
      rw [List.getElem?_set_self hl] at z
      cases z
      exact ⟨ps, q, fun z => absurd rfl z, fun _ => rfl⟩
    · rw [List.getElem?_set_ne e] at z
      exact ⟨qs, z, fun _ => rfl, fun z => absurd z.symm e⟩
  refine ⟨⟨hE.ext.poke h4, by rw [List.length_set]; exact hE.len, fun j y z => ?_, fun j qs z => ?_, fun j k qs rs b z1 z2 z3 z4 => ?_⟩, d.poke h2 h3, ⟨List.prefix_rfl, eh ▸ Same.refl _⟩⟩
  · obtain ⟨e, z⟩ := set_other z (by simp)
    obtain ⟨u, f1, f2⟩ := hE.val j y z
    exact ⟨u, f1, rep_hide eh f2⟩
  · obtain ⟨rs, f1, f2, f3⟩ := back j qs z
    obtain ⟨b, us, g1, g2, g3, g4, g5, g6⟩ := hE.own j rs f1
    by_cases e : j = i
    · subst e
      rw [h1] at g1
      cases g1
      rw [f3 rfl]
      exact ⟨a, vs', h1, h2, h3, h4, upd_same, eh ▸ h6⟩
    · rw [← f2 e]
      refine ⟨b, us, g1, g2, g3, g4, ?_, eh ▸ g6⟩
      rw [upd_ne]
      · exact g5
      · intro z
        subst z
        exact e (hE.apart j i rs ps b f1 q g1 h1)
  · obtain ⟨rs1, f1, _, _⟩ := back j qs z1
    obtain ⟨rs2, f2, _, _⟩ := back k rs z2
    exact hE.apart j k rs1 rs2 b f1 f2 z3 z4
/-- it grows -/
theorem EnvOk.app {i : Nat} {ps : List PyData} {p : PyData} {v : V} {a : Addr} {vs : List V} (hE : EnvOk K w0 H0 env w σ H) (d : Wd K st w H) (q : env[i]? = some (.own ps)) (h1 : σ[i]? = some (some (.ref a))) (h2 : w.B a) (h3 : a ∉ w.μ) (h4 : H0 a = none)
    (h6 : DqAll K (hide w.B H) vs ps) (r : Dq K (hide w.B H) v p) :
    EnvOk K w0 H0 (env.set i (.own (ps ++ [p]))) w σ (upd H a (.lst (vs ++ [v]))) ∧ Wd K st w (upd H a (.lst (vs ++ [v]))) ∧ HX w H w (upd H a (.lst (vs ++ [v]))) :=
  hE.own2 d q h1 h2 h3 h4 (h6.append (.cons r .nil))
theorem DqAll.set {K : PySem.W.Frag} {H : Hp} {p : PyData} {v : V} (r : Dq K H v p) : ∀ {ds : List PyData} {vs : List V} (j : Nat), DqAll K H vs ds → DqAll K H (vs.set j v) (ds.set j p)
  | _, _, _, .nil => .nil
  | _, _, 0, .cons a t => .cons r t
  | _, _, j + 1, .cons a t => .cons a (DqAll.set r j t)
/-- from now on a datum -/
theorem EnvOk.frz {i : Nat} {ps : List PyData} (d0 : ∀ a, w0.B a → H0 a ≠ none) (hE : EnvOk K w0 H0 env w σ H) (d : Wd K st w H) (q : env[i]? = some (.own ps)) :
    ∃ w', EnvOk K w0 H0 (env.set i (.v (lst ps))) w' σ H ∧ Wd K st w' H ∧ HX w H w' H := by
  obtain ⟨a, vs, h1, h2, h3, h4, h5, h6⟩ := hE.own i ps q
  have hl := (List.getElem?_eq_some_iff.mp q).1
  refine ⟨w.free a, ⟨⟨hE.ext.mu, hE.ext.keep, hE.ext.dom, fun b h => ⟨hE.ext.up b h, fun z => d0 b h (z ▸ h4)⟩, fun b h => hE.ext.new b h.1⟩, by rw [List.length_set]; exact hE.len, fun j y z => ?_, fun j qs z => ?_, fun j k qs rs b z1 z2 z3 z4 => ?_⟩, d.free h3, hx_free⟩
  · by_cases e : i = j
    · subst e
      rw [List.getElem?_set_self hl] at z
      cases z
      exact ⟨.ref a, h1, .lst (hide_some.mpr ⟨fun z => z.2 rfl, h5⟩) (dpAll_mono hx_free.hid h6)⟩
    · rw [List.getElem?_set_ne e] at z
      obtain ⟨u, f1, f2⟩ := hE.val j y z
      exact ⟨u, f1, rep_mono hx_free f2⟩
  · obtain ⟨e, z⟩ := set_other z (by simp)
    obtain ⟨b, us, g1, g2, g3, g4, g5, g6⟩ := hE.own j qs z
    refine ⟨b, us, g1, ⟨g2, fun z1 => ?_⟩, g3, g4, g5, dpAll_mono hx_free.hid g6⟩
    subst z1
    exact e (hE.apart j i qs ps b z q g1 h1)
  · exact hE.apart j k qs rs b (set_other z1 (by simp)).2 (set_other z2 (by simp)).2 z3 z4
theorem reps_set : ∀ {xs : List D} {vs : List V} {x : D} {v : V} (j : Nat), Reps K w H xs vs → Rep K w H x v → Reps K w H (xs.set j x) (vs.set j v)
  | [], [], _, _, _, _, _ => trivial
  | _ :: _, _ :: _, _, _, 0, h, r => ⟨r, h.2⟩
  | _ :: _, _ :: _, _, _, j + 1, h, r => ⟨h.1, reps_set j h.2 r⟩
  | [], _ :: _, _, _, _, h, _ => h.elim
  | _ :: _, [], _, _, _, h, _ => h.elim
/-- an item of an object of the store -/
theorem EnvOk.rset {n j : Nat} {a : Addr} {xs : List D} {vs : List V} {x : D} {v : V} (hE : EnvOk K w0 H0 env w σ H) (d : Wd K st w H) (h1 : w.μ[n]? = some a) (q : st[n]? = some (.lst xs)) (h2 : H a = some (.lst vs)) (r : Reps K w H xs vs) (rx : Rep K w H x v) :
    EnvOk K w0 H0 env w σ (upd H a (.lst (vs.set j v))) ∧ Wd K (st.set n (.lst (xs.set j x))) w (upd H a (.lst (vs.set j v))) ∧ HX w H w (upd H a (.lst (vs.set j v))) := by
  have am : a ∈ w.μ := List.mem_of_getElem? h1
  have hB := d.sub a am
  have eh : hide w.B H = hide w.B (upd H a (.lst (vs.set j v))) := (hide_poke hB).symm
  have dm : ∀ b, H b ≠ none → upd H a (.lst (vs.set j v)) b ≠ none := fun b h => by
    by_cases z : b = a
    · rw [z, upd_same]; simp
    · rw [upd_ne z]; exact h
  refine ⟨⟨⟨hE.ext.mu, fun b o h hn => ?_, fun b h => dm b (hE.ext.dom b h), hE.ext.up, hE.ext.new⟩, hE.len, fun i y z => ?_, fun i ps z => ?_, hE.apart⟩, ⟨d.nd, by rw [List.length_set]; exact d.len, d.sub, fun b h => dm b (d.dom b h), fun m o z => ?_⟩, ⟨List.prefix_rfl, eh ▸ Same.refl _⟩⟩
  · rw [upd_ne]
    · exact hE.ext.keep b o h hn
    · intro z
      subst z
      obtain ⟨ν, e1, f1⟩ := hE.ext.mu
      rw [e1] at am
      rcases List.mem_append.mp am with z | z
      · exact hn z
      · rw [f1 b z] at h; cases h
  · obtain ⟨u, f1, f2⟩ := hE.val i y z
    exact ⟨u, f1, rep_hide eh f2⟩
  · obtain ⟨b, us, g1, g2, g3, g4, g5, g6⟩ := hE.own i ps z
    exact ⟨b, us, g1, g2, g3, g4, by rw [upd_ne (fun z => g3 (by rw [z]; exact am))]; exact g5, eh ▸ g6⟩
  · by_cases e : n = m
    · subst e
      have hl := (List.getElem?_eq_some_iff.mp q).1
      rw [List.getElem?_set_self hl] at z
      cases z
      exact ⟨a, h1, _, upd_same, reps_hide eh (reps_set j r rx)⟩
    · rw [List.getElem?_set_ne e] at z
      obtain ⟨b, f1, f2⟩ := d.obs m o z
      refine ⟨b, f1, ?_⟩
      cases o with
      | lst ys =>
        obtain ⟨us, g1, g2⟩ := f2
        refine ⟨us, ?_, reps_hide eh g2⟩
        rw [upd_ne]
        · exact g1
        intro z
        subst z
        refine e ?_
        exact (List.getElem?_inj (List.getElem?_eq_some_iff.mp h1).1 d.nd).mp (h1.trans f1.symm)
end

/-! ### how a statement ends -/
section
variable (K : PySem.W.Frag) (X : XR) (w0 : Wo) (H0 : Hp) (E : XK)
def outS (w : Wo) (H : Hp) (o : Out Fl) (D : Ends) : Prop := match o with
  | .ok (.nx env) st => ∀ w' H' σ, HX w H w' H' → EnvOk K w0 H0 env w' σ H' → Wd K st w' H' → D.nx σ H'
  | .ok (.ret x) st => ∀ w' H' v, Ext w0 H0 w' H' → Wd K st w' H' → Rep K w' H' x v → D.rt v H'
  | .exc c p st => ∀ w' H' cls dx, Ext w0 H0 w' H' → Wd K st w' H' → X c p cls dx H' → E cls dx H'
  | .bad => False
def tS (m : Env → M Fl) : TS := fun D σ H => ∃ (w : Wo) (st : Sto) (env : Env), EnvOk K w0 H0 env w σ H ∧ Wd K st w H ∧ outS K X w0 H0 E w H (m env st) D
end
theorem PS.imp {Y : Cx} {s : Stmt} {t t' : TS} (h : PS Y s t) (i : ∀ D σ H, t' D σ H → t D σ H) : PS Y s t' := ⟨fun pins s σ H D I q => h.run pins s σ H D I (i D σ H q)⟩
theorem PSs.imp {Y : Cx} {s : List Stmt} {t t' : TS} (h : PSs Y s t) (i : ∀ D σ H, t' D σ H → t D σ H) : PSs Y s t' := ⟨fun pins s σ H D I q => h.run pins s σ H D I (i D σ H q)⟩
section
variable {K : PySem.W.Frag} {X : XR} {w0 w w1 : Wo} {H0 H H1 : Hp} {E : XK} {D : Ends} {α : Type} {σ : L2.St} {env : Env} {st : Sto}
theorem outS_mono {o : Out Fl} (e : HX w H w1 H1) (h : outS K X w0 H0 E w H o D) : outS K X w0 H0 E w1 H1 o D := by
  cases o with
  | ok f st =>
    cases f with
    | nx env => exact fun w' H' σ x => h w' H' σ (e.trans x)
    | ret x => exact h
  | exc c p st => exact h
  | bad => exact h
theorem outS_bind {m : M α} {f : α → M Fl} (hE : EnvOk K w0 H0 env w σ H) (hW : Wd K st w H) (h : outS K X w0 H0 E w H (M.bind m f st) D) : outX K X E w H (m st) fun a st1 w1 H1 => outS K X w0 H0 E w1 H1 (f a st1) D := by
  unfold M.bind at h
  cases q : m st with
  | ok a st1 =>
    rw [q] at h
    exact fun w1 H1 e d => outS_mono (e.hx hW) h
  | exc c p st1 =>
    rw [q] at h
    exact fun w' H' cls dx e d x => h w' H' cls dx (hE.ext.trans e) d x
  | bad =>
    rw [q] at h
    exact h
theorem outS_lift {β : Type} {o : Option β} {f : β → M Fl} (h : outS K X w0 H0 E w H (M.bind (M.lift o) f st) D) : ∃ a, o = some a ∧ outS K X w0 H0 E w H (f a st) D := by
  cases o with
  | none => exact h.elim
  | some a => exact ⟨a, rfl, h⟩
theorem outS_need {x : Fb.D} {f : PyData → M Fl} (h : outS K X w0 H0 E w H (need x f st) D) : ∃ p, x = .d p ∧ outS K X w0 H0 E w H (f p st) D := by
  cases x with
  | d p => exact ⟨p, rfl, h⟩
  | ref n => exact h.elim
  | scr ns => exact h.elim
theorem sE_go {m : Env → M Fb.D} {f : Fb.D → M Fl} {R : VK} (hE : EnvOk K w0 H0 env w σ H) (hW : Wd K st w H) (h : outS K X w0 H0 E w H (M.bind (m env) f st) D)
    (g : ∀ x st1 w1 H1 v, Ext w H w1 H1 → EnvOk K w0 H0 env w1 σ H1 → Wd K st1 w1 H1 → Rep K w1 H1 x v → outS K X w0 H0 E w1 H1 (f x st1) D → R v H1) : tE K X w0 H0 E m σ H R :=
  ⟨w, st, env, hE, hW, outX_imp (outS_bind hE hW h) fun x st1 w1 H1 e d q v r => g x st1 w1 H1 v e (hE.go hW e) d r q⟩
theorem sT_go {m : Env → M Bool} {f : Bool → M Fl} {R : Bool → Hp → Prop} (hE : EnvOk K w0 H0 env w σ H) (hW : Wd K st w H) (h : outS K X w0 H0 E w H (M.bind (m env) f st) D)
    (g : ∀ x st1 w1 H1, Ext w H w1 H1 → EnvOk K w0 H0 env w1 σ H1 → Wd K st1 w1 H1 → outS K X w0 H0 E w1 H1 (f x st1) D → R x H1) : tT K X w0 H0 E m σ H R :=
  ⟨w, st, env, hE, hW, outX_imp (outS_bind hE hW h) fun x st1 w1 H1 e d q => g x st1 w1 H1 e (hE.go hW e) d q⟩
theorem sA_go {m : Env → M (List Fb.D)} {f : List Fb.D → M Fl} {R : List V → Hp → Prop} (hE : EnvOk K w0 H0 env w σ H) (hW : Wd K st w H) (h : outS K X w0 H0 E w H (M.bind (m env) f st) D)
    (g : ∀ xs st1 w1 H1 vs, Ext w H w1 H1 → EnvOk K w0 H0 env w1 σ H1 → Wd K st1 w1 H1 → Reps K w1 H1 xs vs → outS K X w0 H0 E w1 H1 (f xs st1) D → R vs H1) : tA K X w0 H0 E m σ H R :=
  ⟨w, st, env, hE, hW, outX_imp (outS_bind hE hW h) fun x st1 w1 H1 e d q v r => g x st1 w1 H1 v e (hE.go hW e) d r q⟩
/-- one statement, then the rest -/
theorem outS_seq {o : Out Fl} {f : Env → M Fl} (h : outS K X w0 H0 E w H (match o with
    | .ok (.nx env') st' => f env' st'
    | .ok (.ret v) st' => .ok (.ret v) st'
    | .exc c p st' => .exc c p st'
    | .bad => .bad) D) : outS K X w0 H0 E w H o { D with nx := fun σ' H' => ∃ w' st' env', HX w H w' H' ∧ EnvOk K w0 H0 env' w' σ' H' ∧ Wd K st' w' H' ∧ outS K X w0 H0 E w' H' (f env' st') D } := by
  cases o with
  | ok r st =>
    cases r with
    | nx env' => exact fun w' H' σ x e d => ⟨w', _, _, x, e, d, outS_mono x h⟩
    | ret x => exact h
  | exc c p st => exact h
  | bad => exact h
end
end Fb

set_option Elab.async false
set_option linter.all false
set_option maxRecDepth 100000
set_option maxHeartbeats 4000000
/-! what the check is worth: statements -/
namespace Fb
open PySem PySem.Spec PyProof.Rows L2

/-! ### the check -/
def plainV : Expr → Bool
  | .ListComp _ _ _ _ => false
  | .SetComp _ _ _ _ => false
  | .DictComp _ _ _ _ _ => false
  | _ => true
/-- the targets that are stored the other way round -/
def swNames (sc : Scope) (ts : List Expr) : List Str := ts.filterMap fun
    | .Name id pos => if sc.names.lookup id == some .local && pos.line == (ts.head?.map (·.pos.line)).getD 0 then some id else none
    | _ => none
def swNone (sc : Scope) (ts vs : List Expr) : Bool := !(ts.length == 2 || ts.length == 3) || (vs.length != ts.length || (!(vs.any fun | .Starred .. => true | _ => false) && ((swNames sc ts).length != ts.length || vs.all (foldedForSure 8))))
def asgOk (sc : Scope) : Expr → Expr → Bool
  | .Name _ _, x => (match x with
    | .SetComp _ _ _ _ => false
    | .DictComp _ _ _ _ _ => false
    | _ => true)
  | .Tuple ts _ _, x => (match x with
    | .Tuple vs _ _ => swNone sc ts vs
    | _ => plainV x)
  | _, _ => false
def par2 (N : List Str) (sc : Scope) (i : Nat) : Expr → Nat → Bool
  | .Name x p, l => decide (N[i]? = some x) && (decide (sc.names.lookup x = some .local) && decide (p.line = l))
  | _, _ => false
def lineOf (e : Expr) : Nat := e.pos.line
def parOk (N : List Str) (sc : Scope) : List Nat → List Expr → List Expr → Bool
  | [i, j], [a, b], vs => decide (vs.length = 2) && (decide (i ≠ j) && (par2 N sc i a (lineOf a) && (par2 N sc j b (lineOf a) && (!(vs.all (foldedForSure 8)) && (!(vs.all (constantsAlone 8)) && vs.all plainE)))))
  | [i, j, l], [a, b, c], vs => decide (vs.length = 3) && (decide (i ≠ j) && (decide (i ≠ l) && (decide (j ≠ l) && (par2 N sc i a (lineOf a) && (par2 N sc j b (lineOf a) && (par2 N sc l c (lineOf a) && (!(vs.all (foldedForSure 8)) && (!(vs.all (constantsAlone 8)) && vs.all plainE))))))))
  | _, _, _ => false
def nmOk (N : List Str) (sc : Scope) (fb : Str → Bool) (i : Nat) : Expr → Bool
  | .Name x _ => decide (N[i]? = some x) && locOk sc fb x
  | _ => false
/-- two names, stored one behind the other from the pair itself -/
def parC (N : List Str) (sc : Scope) (fb : Str → Bool) : List Nat → List Expr → List Expr → Bool
  | [i, j], [a, b], vs => decide (vs.length = 2) && (decide (i ≠ j) && (nmOk N sc fb i a && (nmOk N sc fb j b && swNone sc [a, b] vs)))
  | _, _, _ => false
/-- the flagged ones are lists as they stand -/
def xsOk : Es → List Bool → List Expr → Bool
  | .nil, [], [] => true
  | .cons (.lst _) es, true :: os, .List xs _ :: vs => decide (xs.length ≤ 1000) && xsOk es os vs
  | .cons _ es, false :: os, _ :: vs => xsOk es os vs
  | _, _, _ => false
/-- what makes a new list -/
def freshB (Γ : Info) (sc : Scope) : Fb.E → Expr → Bool
  | .lst _, .List _ _ => true
  | .lc _ _, .ListComp _ _ _ _ => true
  | .blt .list (.cons _ .nil), .Call (.Name x _) [_] [] _ => gloOk sc x "list"
  | _, _ => false
section
variable (Γ : Info) (N : List Str)
mutual
def S.chk : S → Scope → (Str → Bool) → Stmt → Bool
  | .set t e, sc, fb, .Assign [tg] x _ => t.chk N sc fb tg && (e.chk Γ N sc fb x && asgOk sc tg x)
  | .par is es, sc, fb, .Assign [.Tuple ts _ _] (.Tuple vs _ _) _ => parOk N sc is ts vs && es.chk Γ N sc fb vs
  | .parO is es os, sc, fb, .Assign [.Tuple ts _ _] (.Tuple vs _ _) _ => (parOk N sc is ts vs || parC N sc fb is ts vs) && xsOk es os vs && es.chk Γ N sc fb vs
  | .own i e, sc, fb, .Assign [.Name x _] v _ => (decide (N[i]? = some x) && locOk sc fb x) && (freshB Γ sc e v && e.chk Γ N sc fb v)
  | .oset i k e, sc, fb, .Assign [.Subscript (.Name x _) b _] v _ => (decide (N[i]? = some x) && visOk sc x) && (noSlice b && (plainV v && (e.chk Γ N sc fb v && k.chk Γ N sc fb b)))
  | .app i e, sc, fb, .Expr (.Call (.Attribute (.Name x _) a apos) [y] [] cpos) _ => decide (N[i]? = some x) && (visOk sc x && (decide (a = ("append" : Str)) && ((apos.endLine == cpos.line) && (plainE y && e.chk Γ N sc fb y))))
  | .rset o i e, sc, fb, .Assign [.Subscript a b _] x _ => noSlice b && (plainV x && (e.chk Γ N sc fb x && (o.chk Γ N sc fb a && i.chk Γ N sc fb b)))
  | .expr e, sc, fb, .Expr x _ => plainV x && e.chk Γ N sc fb x
  | .ret e, sc, fb, .Return (some x) _ => e.chk Γ N sc fb x
  | .retN, _, _, .Return none _ => true
  | .ifs t a b, sc, fb, .If c p q _ => t.chk Γ N sc fb c && (a.chk sc fb p && b.chk sc fb q)
  | .for_ it t b, sc, fb, .For tg iter body [] _ => it.chk Γ N sc fb tg iter && (t.chk N sc fb tg && b.chk sc fb body)
  | .while_ t b, sc, fb, .While c body [] _ => t.chk Γ N sc fb c && b.chk sc fb body
  | .raise c m, sc, _, .Raise (some (.Call (.Name x _) [.Constant (.str s) _ _] [] _)) none _ => Γ.exs c && (gloOk sc x c && decide (s = Str.ofString m))
  | _, _, _, _ => false
def Ss.chk : Ss → Scope → (Str → Bool) → List Stmt → Bool
  | .nil, _, _, [] => true
  | .cons (.frz i) ss, sc, fb, sts => ss.chk sc fb sts
  | .cons s ss, sc, fb, st :: sts => s.chk sc fb st && ss.chk sc fb sts
  | _, _, _, _ => false
end
end

/-! ### assignments -/
theorem swaps_plain {x : Expr} {t : Option Expr} {n : Nat} {env : PySem.Env} (h : plainV x = true) : swapsWith x t n env = pure false := by
  cases x <;> first | rfl | exact absurd h Bool.false_ne_true
theorem swaps_tuple {x : Expr} {ts : List Expr} {k : Nat} {p : Pos} {n : Nat} {env : PySem.Env} : swapsWith x (some (.Tuple ts k p)) n env = pure false := by
  cases x <;> rfl
theorem swapped_name {x : Expr} {n : Str} {p : Pos} {env : PySem.Env} : swappedStores [.Name n p] x env = pure none := by
  cases x <;> rfl
theorem swapped_plain {x : Expr} {ts : List Expr} {k : Nat} {p : Pos} {env : PySem.Env} (h : ∀ vs k' p', x ≠ .Tuple vs k' p') : swappedStores [.Tuple ts k p] x env = pure none := by
  cases x <;> first | rfl | exact absurd rfl (h _ _ _)
theorem swapped_none {sc : Scope} {ts vs : List Expr} {k k' : Nat} {p p' : Pos} {env : PySem.Env} (hs : env.scope = sc) (h : swNone sc ts vs = true) : swappedStores [.Tuple ts k p] (.Tuple vs k' p') env = pure none := by
  subst hs
  unfold swNone at h
  simp only [Bool.or_eq_true, Bool.and_eq_true] at h
  unfold swappedStores
  simp only
  split
  · rfl
  · rename_i h1
    simp only [Bool.or_eq_true, not_or] at h1
    rcases h with h | h | h
    · exact absurd h h1.1.1
    · exact absurd h h1.1.2
    · split
      · rfl
      · split
        · rfl
        · rename_i h3
          rcases h.2 with h4 | h4
          · refine absurd ?_ h3
            rw [Bool.or_eq_true]
            exact .inl h4
          · rw [if_pos h4]

/-- where one stands in a def's body -/
structure AtS (Γ : Info) (X : XR) (k : Nat) (N : List Str) (sc : Scope) (fb : Str → Bool) (w0 : Wo) (H0 : Hp) (Y : Cx) (E : XK) : Prop where
  a : At Γ X k N sc fb Y E
  tk : Takes Y (fun cls d _ H => E cls d H)
  po : PassesOwn (model Y.prog Y.w) Y.A Y.env Y.xe
  d0 : ∀ b, w0.B b → H0 b ≠ none
  kind : sc.kind = .function
  ex : ∀ c m C H, Γ.exs c = true → Y.mg (Str.ofString c) = some (.ref C) → X c (.str m) (.ref C) none H
section
variable {Γ : Info} {X : XR} {k : Nat} {N : List Str} {sc : Scope} {fb : Str → Bool} {w0 : Wo} {H0 : Hp} {Y : Cx} {F : XK}
/-- target = value -/
theorem set_read {t : T} {e : Fb.E} {pos : Pos} {tg x : Expr} (A : AtS Γ X k N sc fb w0 H0 Y F) {D : Ends} {σ : L2.St} {H : Hp} (q : tS Y.K X w0 H0 F ((S.set t e).ev) D σ H) : tAsg (tE Y.K X w0 H0 F (e.ev)) (tG Y.K w0 H0 t) D σ H := by
  obtain ⟨w, st, env, hE, hW, q⟩ := q
  simp only [S.ev] at q
  exact sE_go hE hW q fun x st1 w1 H1 v e1 hE1 hW1 r z => by
    obtain ⟨env', b, z⟩ := outS_lift z
    exact ⟨w1, st1, env, x, env', hE1, hW1, r, b, fun σ' hE2 _ _ => z w1 H1 σ' HX.refl hE2 hW1⟩
/-- the parts of a list comprehension -/
theorem lc_parts {own : List Nat} {g : G} {sc : Scope} {fb : Str → Bool} {elt : Expr} {gs : List Comprehension} {scope : Scope} {pos : Pos} {Y : Cx} {F : XK} (h : (Fb.E.lc own g).chk Γ N sc fb (.ListComp elt gs scope pos) = true) (a : At Γ X k N sc fb Y F) (gd : (Fb.E.lc own g).good (XOk.G Γ X k Y)) :
    ∃ (c : Cl) (cs : List Cl) (vs : List Nat) (it : Fb.It) (t : T) (oc : Oe) (g' : G), g = .gen vs it t oc g' ∧ gs = c.c :: cs.map Cl.c ∧ PI Y c.tg c.iter (crOf Y.K X w0 H0 F vs it t oc).wi ∧ BlkOk Y.N Y.env.scope scope (ownN Y.N own) ∧ vs = (ownN Y.N own).map (·.2) ∧ (∀ i ∈ slotsCr (G.crs Y.K X w0 H0 g'), i ∈ vs) ∧
      (∀ (s : Shared) (H : Hp) (C : Addr) (cl : List (Str × Addr)) (fp : List Addr), PG (Y.blk s H scope (compEnvC scope cl C Y.env) fp) c.tg (tG Y.K w0 H0 t)) ∧
      (∀ (s : Shared) (H : Hp) (C : Addr) (cl : List (Str × Addr)) (fp : List Addr), PTs (Y.blk s H scope (compEnvC scope cl C Y.env) fp) c.ifs (tT Y.K X w0 H0 noE oc.ok)) ∧
      (∀ (s : Shared) (H : Hp) (C : Addr) (cl : List (Str × Addr)) (fp : List Addr), ClsOk (Y.blk s H scope (compEnvC scope cl C Y.env) fp) cs (G.crs Y.K X w0 H0 g')) ∧
      (∀ (s : Shared) (H : Hp) (C : Addr) (cl : List (Str × Addr)) (fp : List Addr), PE (Y.blk s H scope (compEnvC scope cl C Y.env) fp) elt (tE Y.K X w0 H0 noE (G.elt g').ev)) ∧
      (∀ x, foldedSetIterable c.iter Y.env x = pure x) ∧ G.slotsIn (.gen vs it t oc g') := by
  match g, h, gd with
  | .gen vs it t c g, h, gd =>
    simp only [E.chk, Bool.and_eq_true, decide_eq_true_eq] at h
    obtain ⟨h1, h2, h3⟩ := h
    obtain ⟨tg, iter, ifs, gs', rfl, hv, hn, g1, g2, g3, g4, g5⟩ := chk0_inv h3
    have B := blkOk_by (N := N) (sc := sc) h2
    rw [← a.n, ← a.s] at B
    have hcalm := a.ok.calm
    have inn : ∀ (s : Shared) (H : Hp) (C : Addr) (cl : List (Str × Addr)) (fp : List Addr), At Γ X k N (relS scope sc) (fun x => scope.names.lookup x == some .cell) (Y.blk s H scope (compEnvC scope cl C Y.env) fp) noE := fun s H C cl fp =>
      ⟨a.ok.blk s H scope _ fp, a.n, by rw [← a.s]; rfl, rfl⟩
    obtain ⟨sl1, sl2⟩ := chkR_slots g g5
    exact ⟨⟨tg, iter, ifs⟩, gs'.map clOf, vs, it, t, c, g, rfl, congrArg (⟨tg, iter, ifs, 0⟩ :: ·) (chkR_gs g g5), sndI it sc fb tg iter g1 Y F a gd.1, by rw [a.n] at B ⊢; exact B, by rw [ownN_ix]; exact hv, sl2 Y.K X w0 H0,
      (fun s H C cl fp => sndT rfl (inn s H C cl fp).n a.ok.nd (inn s H C cl fp).s rfl hcalm t tg g2), (fun s H C cl fp => sndL c _ _ ifs g4 _ noE (inn s H C cl fp) gd.2.1), (fun s H C cl fp => (sndR g vs _ _ elt gs' g5 _ (inn s H C cl fp) gd.2.2).1),
      (fun s H C cl fp => (sndR g vs _ _ elt gs' g5 _ (inn s H C cl fp) gd.2.2).2), foldedNo hn, g3, sl1⟩
  | .fin _, h, gd =>
    simp only [E.chk, Bool.and_eq_true, decide_eq_true_eq] at h
    exact absurd h.2.2 Bool.false_ne_true
theorem swaps_lc {elt : Expr} {gs : List Comprehension} {scope : Scope} {p2 : Pos} {y : Str} {py : Pos} {n : Nat} {env : PySem.Env} :
    swapsWith (.ListComp elt gs scope p2) (some (.Name y py)) n env = pure (env.blockKind == .function && env.kindOf y == some .local && py.line == p2.line && !(scope.names.any fun (n, k) => n == y && (k == .local || k == .cell))) := rfl
theorem set_snd {t : T} {e : Fb.E} {pos : Pos} {tg x : Expr} (A : AtS Γ X k N sc fb w0 H0 Y F) (h1 : t.chk N sc fb tg = true) (h2 : e.chk Γ N sc fb x = true) (h3 : asgOk sc tg x = true) (gd : e.good (XOk.G Γ X k Y)) : PS Y (.Assign [tg] x pos) (tS Y.K X w0 H0 F (S.set t e).ev) := by
  have a := A.a
  have he := sndE (w0 := w0) (H0 := H0) e sc fb x h2 Y F a gd
  have hg : PG Y tg (tG Y.K w0 H0 t) := sndT rfl a.n a.ok.nd a.s a.f a.ok.calm t tg h1
  have ho : (assignEach [tg] Y.env).map (·.2) = [assign tg Y.env] := by
    unfold asgOk at h3
    split at h3
    · rfl
    · rfl
    · cases h3
  have go : swapsWith x (some tg) pos.line Y.env = pure false → swappedStores [tg] x Y.env = pure none → PS Y (.Assign [tg] x pos) (tS Y.K X w0 H0 F (S.set t e).ev) := fun s1 s2 =>
    PS.imp (ps_asg he hg s1 s2 ho) fun D σ H q => set_read A (pos := pos) (tg := tg) (x := x) q
  cases tg <;> try (exact absurd h3 Bool.false_ne_true)
  · rename_i y py
    by_cases hp : plainV x = true
    · exact go (swaps_plain hp) swapped_name
    · cases x <;> first | exact absurd rfl hp | exact absurd h3 Bool.false_ne_true | skip
      rename_i elt gs scope p2
      cases sw : (Y.env.blockKind == .function && Y.env.kindOf y == some .local && py.line == p2.line && !(scope.names.any fun (n, k) => n == y && (k == .local || k == .cell))) with
      | false => exact go (by rw [swaps_lc, sw]) swapped_name
      | true =>
        match e, h2, gd with
        | .lc own g, h2, gd =>
          obtain ⟨c, cs, vs, it, t', oc, g', rfl, rfl, p1, p2, p3, p4, p5, p6, p7, p8, p9, p10⟩ := lc_parts (w0 := w0) (H0 := H0) h2 a gd
          match t, h1 with
          | .nm i, h1 =>
            simp only [T.chk, Bool.and_eq_true, decide_eq_true_eq] at h1
            have hl : Y.env.scope.names.lookup y = some .local := by
              simp only [Bool.and_eq_true, beq_iff_eq] at sw
              exact sw.1.1.2
            refine PS.imp (ps_setLcN a.ok.calm a.ok.nd (by rw [a.n]; exact h1.1) hl (by rw [swaps_lc, sw]) p1 p2 p3 p4 p5 p6 p7 p8 p9) fun D σ H q => ?_
            obtain ⟨w, st, env, hE, hW, q⟩ := q
            simp only [S.ev] at q
            refine lcN_dat (F2 := F) (own := own) p10 hE hW (outX_imp (outS_bind hE hW q) fun x st1 w1 H1 e1 hW1 z v r => ?_)
            obtain ⟨env', b, z⟩ := outS_lift z
            unfold T.bind at b
            split at b
            · cases b
              exact z w1 H1 _ HX.refl ((hE.go hW e1).setV r) hW1
            · cases b
  · rename_i ts kk p
    refine go swaps_tuple ?_
    by_cases hx : ∃ vs k' p', x = .Tuple vs k' p'
    · obtain ⟨vs, k', p', rfl⟩ := hx
      exact swapped_none a.s h3
    · exact swapped_plain fun vs k' p' z => hx ⟨vs, k', p', z⟩
end
end Fb

set_option Elab.async false
set_option linter.all false
set_option maxRecDepth 100000
set_option maxHeartbeats 4000000
/-! several names at once, lists of the frame's own among what is stored -/
namespace Fb
open PySem PySem.Spec PyProof.Rows L2
section
variable {K : PySem.W.Frag} {w0 w : Wo} {H0 H : Hp} {env env' : Env} {σ σ' : L2.St} {st : Sto}
theorem EnvOk.pick (h : EnvOk K w0 H0 env w σ H) (f : Nat → Nat) (inj : ∀ i j, i < env'.length → j < env'.length → f i = f j → i = j) (len : env'.length = σ'.length) (he : ∀ i, i < env'.length → env'[i]? = env[f i]? ∧ σ'[i]? = σ[f i]?) : EnvOk K w0 H0 env' w σ' H := by
  have lt : ∀ {i : Nat} {s : Sl}, env'[i]? = some s → i < env'.length := fun h => (List.getElem?_eq_some_iff.mp h).1
  refine ⟨h.ext, len, fun i x q => ?_, fun i ps q => ?_, fun i j ps qs a q1 q2 q3 q4 => ?_⟩
  · obtain ⟨e1, e2⟩ := he i (lt q)
    obtain ⟨v, h1, h2⟩ := h.val (f i) x (e1 ▸ q)
    exact ⟨v, by rw [e2]; exact h1, h2⟩
  · obtain ⟨e1, e2⟩ := he i (lt q)
    obtain ⟨a, vs, h1, h2⟩ := h.own (f i) ps (e1 ▸ q)
    exact ⟨a, vs, by rw [e2]; exact h1, h2⟩
  · obtain ⟨e1, e2⟩ := he i (lt q1)
    obtain ⟨e3, e4⟩ := he j (lt q2)
    exact inj i j (lt q1) (lt q2) (h.apart (f i) (f j) ps qs a (e1 ▸ q1) (e3 ▸ q2) (e2 ▸ q3) (e4 ▸ q4))
theorem EnvOk.pushUn (h : EnvOk K w0 H0 env w σ H) (x : Option V) : EnvOk K w0 H0 (env ++ [.un]) w (σ ++ [x]) H := by
  have at_ : ∀ {i : Nat} {s : Sl}, s ≠ .un → (env ++ [.un])[i]? = some s → i < env.length ∧ env[i]? = some s := fun {i s} hs q => by
    by_cases l : i < env.length
    · rw [List.getElem?_append_left l] at q
      exact ⟨l, q⟩
    · rw [List.getElem?_append_right (by omega)] at q
      cases z : i - env.length with
      | zero => rw [z] at q; simp at q; exact absurd q.symm hs
      | succ n => rw [z] at q; simp at q
  refine ⟨h.ext, by simp [h.len], fun i x q => ?_, fun i ps q => ?_, fun i j ps qs a q1 q2 q3 q4 => ?_⟩
  · obtain ⟨l, q⟩ := at_ (by simp) q
    obtain ⟨v, h1, h2⟩ := h.val i x q
    exact ⟨v, by rw [List.getElem?_append_left (by rw [← h.len]; exact l)]; exact h1, h2⟩
  · obtain ⟨l, q⟩ := at_ (by simp) q
    obtain ⟨a, vs, h1, h2⟩ := h.own i ps q
    exact ⟨a, vs, by rw [List.getElem?_append_left (by rw [← h.len]; exact l)]; exact h1, h2⟩
  · obtain ⟨l1, q1⟩ := at_ (by simp) q1
    obtain ⟨l2, q2⟩ := at_ (by simp) q2
    rw [List.getElem?_append_left (by rw [← h.len]; exact l1)] at q3
    rw [List.getElem?_append_left (by rw [← h.len]; exact l2)] at q4
    exact h.apart i j ps qs a q1 q2 q3 q4
theorem set_last {α : Type} (l : List α) (x y : α) : (l ++ [x]).set l.length y = l ++ [y] := by
  rw [List.set_append_right _ _ (Nat.le_refl _)]
  simp
theorem EnvOk.pushV {x : D} {v : V} (h : EnvOk K w0 H0 env w σ H) (r : Rep K w H x v) : EnvOk K w0 H0 (env ++ [.v x]) w (σ ++ [some v]) H := by
  have := (h.pushUn none).setV (i := env.length) r
  rw [set_last, h.len, set_last] at this
  exact this
theorem EnvOk.pushOwn {p : Addr} {vs : List V} {ps : List PyData} (h : EnvOk K w0 H0 env w σ H) (d : Wd K st w H) (hp : H p = none) (r : DqAll K (hide w.B H) vs ps) :
    EnvOk K w0 H0 (env ++ [.own ps]) (w.hold p) (σ ++ [some (.ref p)]) (upd H p (.lst vs)) ∧ Wd K st (w.hold p) (upd H p (.lst vs)) := by
  obtain ⟨g1, g2, _⟩ := (h.pushUn none).ownNew (i := env.length) d hp (by simp) r
  rw [set_last, h.len, set_last] at g1
  exact ⟨g1, g2⟩
theorem EnvOk.front {ss : List Sl} {us : L2.St} (h : EnvOk K w0 H0 (env ++ ss) w (σ ++ us) H) (hl : env.length = σ.length) : EnvOk K w0 H0 env w σ H :=
  h.pick (fun i => i) (fun _ _ _ _ e => e) hl fun i hi => ⟨by rw [List.getElem?_append_left hi], by rw [List.getElem?_append_left (by rw [← hl]; exact hi)]⟩
end
section
variable (K : PySem.W.Frag) (X : XR) (w0 : Wo) (H0 : Hp) (E : XK)
/-- what is stored, one behind the other; what was reckoned already stands behind the names -/
def tX (m : Env → M (List Sl)) : TA := fun σ H Q => ∃ (w : Wo) (st : Sto) (env : Env) (ss0 : List Sl) (us0 : List V), env.length = σ.length ∧ EnvOk K w0 H0 (env ++ ss0) w (σ ++ us0.map some) H ∧ Wd K st w H ∧
  outX K X E w H (m env st) fun ss st' w' H' => Wd K st' w' H' → ∀ vs, EnvOk K w0 H0 (env ++ (ss0 ++ ss)) w' (σ ++ (us0 ++ vs).map some) H' → Q vs H'
end
section
variable {Γ : Info} {X : XR} {k : Nat} {N : List Str} {sc : Scope} {fb : Str → Bool} {w0 : Wo} {H0 : Hp} {Y : Cx} {F : XK}
def slotsM (es : Es) (os : List Bool) (env : Env) : M (List Sl) := M.bind (es.ev env) fun xs => M.lift (slotsOf os xs)
theorem slots_cons {es : Es} {os : List Bool} {o : Bool} {x : Fb.D} {s : Sl} {env : Env} (h : slotOf o x = some s) : M.bind (es.ev env) (fun xs => M.lift (slotsOf (o :: os) (x :: xs))) = M.bind (slotsM es os env) fun ss => M.pure (s :: ss) := by
  unfold slotsM
  rw [M.bind_bind]
  refine congrArg (M.bind (es.ev env)) (funext fun xs => ?_)
  show M.lift ((slotOf o x).bind fun s => (slotsOf os xs).map (s :: ·)) = _
  rw [h]
  cases slotsOf os xs <;> rfl
theorem tX_cons {K : PySem.W.Frag} {E : XK} {es : Es} {os : List Bool} {o : Bool} {x : Fb.D} {s : Sl} {v : V} {env : Env} {ss0 : List Sl} {us0 : List V} {w : Wo} {H : Hp} {st : Sto} {σ : L2.St} {Q : List V → Hp → Prop} (hs : slotOf o x = some s) (hl : env.length = σ.length)
    (hE : EnvOk K w0 H0 (env ++ ss0 ++ [s]) w (σ ++ us0.map some ++ [some v]) H) (hW : Wd K st w H)
    (q : outX K X E w H (M.bind (es.ev env) (fun xs => M.lift (slotsOf (o :: os) (x :: xs))) st) fun ss st' w' H' => Wd K st' w' H' → ∀ vs, EnvOk K w0 H0 (env ++ (ss0 ++ ss)) w' (σ ++ (us0 ++ vs).map some) H' → Q vs H') :
    tX K X w0 H0 E (slotsM es os) σ H fun vs H' => Q (v :: vs) H' := by
  rw [slots_cons hs] at q
  refine ⟨w, st, env, ss0 ++ [s], us0 ++ [v], hl, ?_, hW, outX_imp (outX_bind q) fun ss st1 w1 H1 e1 d1 z hW1 vs hE1 => ?_⟩
  · rw [List.map_append, ← List.append_assoc, ← List.append_assoc]
    exact hE
  · refine outX_now d1 z hW1 (v :: vs) ?_
    rw [show ss0 ++ s :: ss = ss0 ++ [s] ++ ss by simp, show us0 ++ v :: vs = us0 ++ [v] ++ vs by simp]
    exact hE1
theorem sndX (a : At Γ X k N sc fb Y F) : ∀ (es : Es) (os : List Bool) (vs : List Expr), xsOk es os vs = true → es.chk Γ N sc fb vs = true → es.good (XOk.G Γ X k Y) → PA Y vs (tX Y.K X w0 H0 F (slotsM es os))
  | .nil, os, vs, h, hc, gd => by
    cases os <;> cases vs <;> try (exact absurd h Bool.false_ne_true)
    refine PA.imp pa_nil fun σ H Q q => ?_
    obtain ⟨w, st, env, ss0, us0, hl, hE, hW, q⟩ := q
    have q := outX_now hW q hW [] (by simpa using hE)
    exact q
  | .cons e es, true :: os, v :: vs, h, hc, gd => by
    match e, v, h, hc, gd with
    | .lst es', .List xs p, h, hc, gd =>
      simp only [xsOk, Bool.and_eq_true, decide_eq_true_eq] at h
      simp only [Es.chk, E.chk, Bool.and_eq_true, decide_eq_true_eq] at hc
      refine PA.imp (pa_cons (pe_lst (sndEs (w0 := w0) (H0 := H0) es' sc fb xs hc.2.1.2 Y F a gd.1)) (sndX a es os vs h.2 hc.2.2 gd.2) (star_cons hc.1)) fun σ H Q q => ?_
      obtain ⟨w, st, env, ss0, us0, hl, hE, hW, q⟩ := q
      unfold slotsM at q
      simp only [Es.ev, E.ev, M.bind_bind] at q
      have hsm := small_es h.1 hc.2.1.2 env
      cases q1 : es'.ev env st with
      | ok ys st1 =>
        have q := outX_bind q
        refine ⟨w, st, env, hE.front hl, hW, ?_⟩
        rw [q1] at q ⊢
        intro w1 H1 e1 d1 us r
        have q := q w1 H1 e1 d1
        dsimp only at q
        have hq := hsm _ _ _ q1
        cases b : datas ys with
        | none =>
          rw [b] at q
          exact q.elim
        | some ps =>
          rw [b] at q
          refine ⟨by rw [reps_len r, sizeLine_eq]; omega, fun p hp => ?_⟩
          obtain ⟨g1, g2⟩ := (hE.go hW e1).pushOwn d1 hp (dpAll_of r b)
          have eh : Ext w1 H1 (w1.hold p) (upd H1 p (.lst us)) := Ext.hold hp
          refine tX_cons (o := true) (x := .d (.list ps)) (s := .own ps) rfl hl g1 g2 (outX_mono eh ?_)
          simpa using q
      | exc c p st1 =>
        unfold M.bind at q
        rw [q1] at q
        exact ⟨w, st, env, hE.front hl, hW, by rw [q1]; exact q⟩
      | bad =>
        unfold M.bind at q
        rw [q1] at q
        exact q.elim
  | .cons e es, false :: os, v :: vs, h, hc, gd => by
    have h : xsOk es os vs = true := by
      cases e <;> first | exact h | (cases v <;> exact h)
    simp only [Es.chk, Bool.and_eq_true] at hc
    refine PA.imp (pa_cons (sndE (w0 := w0) (H0 := H0) e sc fb v hc.2.1 Y F a gd.1) (sndX a es os vs h hc.2.2 gd.2) (star_cons hc.1)) fun σ H Q q => ?_
    obtain ⟨w, st, env, ss0, us0, hl, hE, hW, q⟩ := q
    unfold slotsM at q
    simp only [Es.ev, M.bind_bind] at q
    refine tE_go (hE.front hl) hW q fun x st1 w1 H1 v e1 hE1 hW1 r z => ?_
    exact tX_cons (o := false) (x := x) (s := .v x) rfl hl ((hE.go hW e1).pushV r) hW1 (by simpa using z)
  | .cons e _, [], vs, h, _, _ => by
    cases e <;> cases vs <;> exact absurd h Bool.false_ne_true
  | .cons e _, o :: _, [], h, _, _ => by
    cases e <;> cases o <;> exact absurd h Bool.false_ne_true
theorem putMany2 {i j : Nat} {xs : List Sl} {env env' : Env} (h : putMany [i, j] xs env = some env') : i < env.length ∧ j < env.length ∧ ∃ x y, xs = [x, y] ∧ env' = (env.set i x).set j y := by
  match xs, h with
  | [x, y], h =>
    simp only [putMany] at h
    split at h
    · split at h
      · rename_i h1 h2
        rw [List.length_set] at h2
        cases h; exact ⟨h1, h2, x, y, rfl, rfl⟩
      · cases h
    · cases h
  | [], h => cases h
  | [x], h =>
    simp only [putMany] at h
    split at h <;> cases h
  | x :: y :: z :: r, h =>
    simp only [putMany] at h
    split at h
    · split at h <;> cases h
    · cases h
theorem putMany3 {i j l : Nat} {xs : List Sl} {env env' : Env} (h : putMany [i, j, l] xs env = some env') : i < env.length ∧ j < env.length ∧ l < env.length ∧ ∃ x y z, xs = [x, y, z] ∧ env' = ((env.set i x).set j y).set l z := by
  match xs, h with
  | [x, y, z], h =>
    simp only [putMany] at h
    split at h
    · split at h
      · split at h
        · rename_i h1 h2 h3
          simp only [List.length_set] at h2 h3
          cases h; exact ⟨h1, h2, h3, x, y, z, rfl, rfl⟩
        · cases h
      · cases h
    · cases h
  | [], h => cases h
  | [x], h =>
    simp only [putMany] at h
    split at h <;> cases h
  | [x, y], h =>
    simp only [putMany] at h
    split at h
    · split at h <;> cases h
    · cases h
  | x :: y :: z :: u :: r, h =>
    simp only [putMany] at h
    split at h
    · split at h
      · split at h <;> cases h
      · cases h
    · cases h
theorem EnvOk.put2 {K : PySem.W.Frag} {w : Wo} {H : Hp} {env : Env} {σ : L2.St} {i j : Nat} {s t : Sl} {u v : V} (h : EnvOk K w0 H0 (env ++ [s, t]) w (σ ++ [some u, some v]) H) (hl : env.length = σ.length) (hi : i < env.length) (hj : j < env.length) (hij : i ≠ j) :
    EnvOk K w0 H0 ((env.set i s).set j t) w ((σ.set i (some u)).set j (some v)) H := by
  refine h.pick (fun k => if k = i then env.length else if k = j then env.length + 1 else k) (fun a b ha hb e => ?_) (by simp [hl]) fun a ha => ?_
  · simp only [List.length_set] at ha hb
    try dsimp only at e
    split at e <;> split at e <;> (try split at e) <;> (try split at e) <;> omega
  · simp only [List.length_set] at ha
    by_cases e1 : a = i
    · subst e1
      simp only [if_true]
      rw [List.getElem?_set_ne (Ne.symm hij), List.getElem?_set_self hi, List.getElem?_set_ne (Ne.symm hij), List.getElem?_set_self (by omega)]
      rw [List.getElem?_append_right (by omega), List.getElem?_append_right (by omega)]
      simp [hl]
    · by_cases e2 : a = j
      · subst e2
        simp only [e1, if_false, if_true]
        rw [List.getElem?_set_self (by simpa using hj), List.getElem?_set_self (by simp; omega)]
        rw [List.getElem?_append_right (by omega), List.getElem?_append_right (by omega)]
        simp [hl]
      · simp only [e1, e2, if_false]
        rw [List.getElem?_set_ne (Ne.symm e2), List.getElem?_set_ne (Ne.symm e1), List.getElem?_set_ne (Ne.symm e2), List.getElem?_set_ne (Ne.symm e1)]
        rw [List.getElem?_append_left (by omega), List.getElem?_append_left (by omega)]
        exact ⟨rfl, rfl⟩
theorem EnvOk.put3 {K : PySem.W.Frag} {w : Wo} {H : Hp} {env : Env} {σ : L2.St} {i j l : Nat} {s t r : Sl} {u v x : V} (h : EnvOk K w0 H0 (env ++ [s, t, r]) w (σ ++ [some u, some v, some x]) H) (hl : env.length = σ.length) (hi : i < env.length) (hj : j < env.length) (hk : l < env.length) (hij : i ≠ j) (hil : i ≠ l) (hjl : j ≠ l) :
    EnvOk K w0 H0 (((env.set i s).set j t).set l r) w (((σ.set i (some u)).set j (some v)).set l (some x)) H := by
  refine h.pick (fun k => if k = i then env.length else if k = j then env.length + 1 else if k = l then env.length + 2 else k) (fun a b ha hb e => ?_) (by simp [hl]) fun a ha => ?_
  · simp only [List.length_set] at ha hb
    try dsimp only at e
    split at e <;> split at e <;> (try split at e) <;> (try split at e) <;> (try split at e) <;> (try split at e) <;> omega
  · simp only [List.length_set] at ha
    by_cases e1 : a = i
    · subst e1
      simp only [if_true]
      rw [List.getElem?_set_ne (Ne.symm hil), List.getElem?_set_ne (Ne.symm hij), List.getElem?_set_self hi, List.getElem?_set_ne (Ne.symm hil), List.getElem?_set_ne (Ne.symm hij), List.getElem?_set_self (by omega)]
      rw [List.getElem?_append_right (by omega), List.getElem?_append_right (by omega)]
      simp [hl]
    · by_cases e2 : a = j
      · subst e2
        simp only [e1, if_false, if_true]
        rw [List.getElem?_set_ne (Ne.symm hjl), List.getElem?_set_self (by simpa using hj), List.getElem?_set_ne (Ne.symm hjl), List.getElem?_set_self (by simp; omega)]
        rw [List.getElem?_append_right (by omega), List.getElem?_append_right (by omega)]
        simp [hl]
      · by_cases e3 : a = l
        · subst e3
          simp only [e1, e2, if_false, if_true]
          rw [List.getElem?_set_self (by simpa using hk), List.getElem?_set_self (by simp; omega)]
          rw [List.getElem?_append_right (by omega), List.getElem?_append_right (by omega)]
          simp [hl]
        · simp only [e1, e2, e3, if_false]
          rw [List.getElem?_set_ne (Ne.symm e3), List.getElem?_set_ne (Ne.symm e2), List.getElem?_set_ne (Ne.symm e1), List.getElem?_set_ne (Ne.symm e3), List.getElem?_set_ne (Ne.symm e2), List.getElem?_set_ne (Ne.symm e1)]
          rw [List.getElem?_append_left (by omega), List.getElem?_append_left (by omega)]
          exact ⟨rfl, rfl⟩
end
end Fb

set_option Elab.async false
set_option linter.all false
set_option maxRecDepth 100000
set_option maxHeartbeats 4000000
/-! what the check is worth: statements, all of them -/
namespace Fb
open PySem PySem.Spec PyProof.Rows L2
section
variable {Γ : Info} {X : XR} {k : Nat} {N : List Str} {sc : Scope} {fb : Str → Bool} {w0 : Wo} {H0 : Hp} {Y : Cx} {F : XK}
theorem outS_then {K : PySem.W.Frag} {X : XR} {E : XK} {w : Wo} {H : Hp} {st : Sto} {m : M Fl} {f : Env → M Fl} {D D' : Ends} (h : outS K X w0 H0 E w H (M.bind m (fun r => match r with
    | .nx e => f e
    | .ret v => M.pure (.ret v)) st) D) (hr : D'.rt = D.rt)
    (hn : ∀ w' st' env' σ' H', HX w H w' H' → EnvOk K w0 H0 env' w' σ' H' → Wd K st' w' H' → outS K X w0 H0 E w' H' (f env' st') D → D'.nx σ' H') : outS K X w0 H0 E w H (m st) D' := by
  unfold M.bind at h
  cases q : m st with
  | ok r st1 =>
    rw [q] at h
    cases r with
    | nx e => exact fun w' H' σ x hE hW => hn w' st1 e σ H' x hE hW (outS_mono x h)
    | ret v =>
      intro w' H' v e d r
      rw [hr]
      exact h w' H' v e d r
  | exc c p st1 =>
    rw [q] at h
    exact h
  | bad =>
    rw [q] at h
    exact h
theorem setMany2 {i j : Nat} {xs : List Fb.D} {env env' : Env} (h : setMany [i, j] xs env = some env') : ∃ x y, xs = [x, y] ∧ env' = (env.set i (.v x)).set j (.v y) := by
  match xs, h with
  | [x, y], h =>
    simp only [setMany] at h
    split at h
    · split at h
      · cases h; exact ⟨x, y, rfl, rfl⟩
      · cases h
    · cases h
  | [], h => cases h
  | [x], h =>
    simp only [setMany] at h
    split at h <;> cases h
  | x :: y :: z :: r, h =>
    simp only [setMany] at h
    split at h
    · split at h <;> cases h
    · cases h
theorem setMany3 {i j l : Nat} {xs : List Fb.D} {env env' : Env} (h : setMany [i, j, l] xs env = some env') : ∃ x y z, xs = [x, y, z] ∧ env' = ((env.set i (.v x)).set j (.v y)).set l (.v z) := by
  match xs, h with
  | [x, y, z], h =>
    simp only [setMany] at h
    split at h
    · split at h
      · split at h
        · cases h; exact ⟨x, y, z, rfl, rfl⟩
        · cases h
      · cases h
    · cases h
  | [], h => cases h
  | [x], h =>
    simp only [setMany] at h
    split at h <;> cases h
  | [x, y], h =>
    simp only [setMany] at h
    split at h
    · split at h <;> cases h
    · cases h
  | x :: y :: z :: u :: r, h =>
    simp only [setMany] at h
    split at h
    · split at h
      · split at h <;> cases h
      · cases h
    · cases h
theorem par2_of {i : Nat} {e : Expr} {l : Nat} (h : par2 N sc i e l = true) : ∃ x p, e = .Name x p ∧ N[i]? = some x ∧ sc.names.lookup x = some .local ∧ p.line = l := by
  cases e <;> try (exact absurd h Bool.false_ne_true)
  simp only [par2, Bool.and_eq_true, decide_eq_true_eq] at h
  exact ⟨_, _, rfl, h.1, h.2.1, h.2.2⟩
theorem ne_of_ix {i j : Nat} {x y : Str} (nd : N.Nodup) (h1 : N[i]? = some x) (h2 : N[j]? = some y) (h : i ≠ j) : x ≠ y := fun z => by
  subst z
  exact h ((List.getElem?_inj (List.getElem?_eq_some_iff.mp h1).1 nd).mp (h1.trans h2.symm))
theorem plain_stars {vs : List Expr} (h : vs.all plainE = true) : (vs.any fun | .Starred .. => true | _ => false) = false := by
  induction vs with
  | nil => rfl
  | cons v r ih =>
    simp only [List.all_cons, Bool.and_eq_true] at h
    simp only [List.any_cons, ih h.2, Bool.or_false]
    cases v <;> first | rfl | exact absurd h.1 Bool.false_ne_true
theorem par_snd {is : List Nat} {es : Fb.Es} {ts vs : List Expr} {kt k2 : Nat} {pt pt2 pos : Pos} (A : AtS Γ X k N sc fb w0 H0 Y F) (h1 : parOk N sc is ts vs = true) (h2 : es.chk Γ N sc fb vs = true) (gd : es.good (XOk.G Γ X k Y)) :
    PS Y (.Assign [.Tuple ts kt pt] (.Tuple vs k2 pt2) pos) (tS Y.K X w0 H0 F ((S.par is es).ev)) := by
  have a := A.a
  have hA := sndEs (w0 := w0) (H0 := H0) es sc fb vs h2 Y F a gd
  have hk : Y.env.blockKind = .function := by
    unfold PySem.Env.blockKind
    rw [a.s, A.kind]
    rfl
  have nd : N.Nodup := by rw [← a.n]; exact a.ok.nd
  match is, ts, h1 with
  | [i, j], [e1, e2], h1 =>
    simp only [parOk, Bool.and_eq_true, decide_eq_true_eq, Bool.not_eq_true'] at h1
    obtain ⟨l1, l2, l3, l4, l5, l6, l7⟩ := h1
    obtain ⟨x, px, rfl, n1, s1, p1⟩ := par2_of l3
    obtain ⟨y, py, rfl, n2, s2, p2⟩ := par2_of l4
    have nxy := ne_of_ix nd n1 n2 l2
    match vs, l1, hA with
    | [v1, v2], l1, hA =>
      rw [← a.s] at s1 s2
      refine PS.imp (ps_par a.ok.calm a.ok.nd (by rw [a.n]; exact n1) (by rw [a.n]; exact n2) l2 s1 s2 hA ?_ rfl) fun D σ H q => ?_
      · have hst := plain_stars l7
        have p2' : py.line = px.line := p2
        have k1 : Y.env.kindOf x = some .local := s1
        have k2 : Y.env.kindOf y = some .local := s2
        unfold swappedStores
        simp only
        rw [if_neg (by simp [hk])]
        refine (if_neg (fun z => Bool.false_ne_true (hst.symm.trans z))).trans ?_
        refine (if_neg ?_).trans ((if_neg ?_).trans ?_)
        · simp [Expr.pos, k1, k2, p2', List.eraseDups_cons, nxy, Ne.symm nxy]
        · rw [l5]; simp
        · rw [l6]; simp [Expr.pos, k1, k2, p2']
      · obtain ⟨w, st, env, hE, hW, q⟩ := q
        simp only [S.ev] at q
        exact sA_go hE hW q fun xs st1 w1 H1 vs e1 hE1 hW1 r z => by
          obtain ⟨env', b, z⟩ := outS_lift z
          obtain ⟨x1, y1, rfl, rfl⟩ := setMany2 b
          match vs, r with
          | [u, v], r => exact ⟨u, v, rfl, z w1 H1 _ HX.refl ((hE1.setV r.1).setV r.2.1) hW1⟩
  | [i, j, l], [e1, e2, e3], h1 =>
    simp only [parOk, Bool.and_eq_true, decide_eq_true_eq, Bool.not_eq_true'] at h1
    obtain ⟨l1, l2, l2b, l2c, l3, l4, l4b, l5, l6, l7⟩ := h1
    obtain ⟨x, px, rfl, n1, s1, p1⟩ := par2_of l3
    obtain ⟨y, py, rfl, n2, s2, p2⟩ := par2_of l4
    obtain ⟨z, pz, rfl, n3, s3, p3⟩ := par2_of l4b
    have nxy := ne_of_ix nd n1 n2 l2
    have nxz := ne_of_ix nd n1 n3 l2b
    have nyz := ne_of_ix nd n2 n3 l2c
    match vs, l1, hA with
    | [v1, v2, v3], l1, hA =>
      rw [← a.s] at s1 s2 s3
      refine PS.imp (ps_par3 a.ok.calm a.ok.nd (by rw [a.n]; exact n1) (by rw [a.n]; exact n2) (by rw [a.n]; exact n3) l2 l2b l2c s1 s2 s3 hA ?_ rfl) fun D σ H q => ?_
      · have hst := plain_stars l7
        have p2' : py.line = px.line := p2
        have p3' : pz.line = px.line := p3
        have k1 : Y.env.kindOf x = some .local := s1
        have k2 : Y.env.kindOf y = some .local := s2
        have k3 : Y.env.kindOf z = some .local := s3
        unfold swappedStores
        simp only
        rw [if_neg (by simp [hk])]
        refine (if_neg (fun z => Bool.false_ne_true (hst.symm.trans z))).trans ?_
        refine (if_neg ?_).trans ((if_neg ?_).trans ?_)
        · simp [Expr.pos, k1, k2, k3, p2', p3', List.eraseDups_cons, nxy, nxz, nyz, Ne.symm nxy, Ne.symm nxz, Ne.symm nyz]
        · rw [l5]; simp
        · rw [l6]; simp [Expr.pos, k1, k2, k3, p2', p3']
      · obtain ⟨w, st, env, hE, hW, q⟩ := q
        simp only [S.ev] at q
        exact sA_go hE hW q fun xs st1 w1 H1 vs e1 hE1 hW1 r z => by
          obtain ⟨env', b, z⟩ := outS_lift z
          obtain ⟨x1, y1, z1, rfl, rfl⟩ := setMany3 b
          match vs, r with
          | [u, v, t], r => exact ⟨u, v, t, rfl, z w1 H1 _ HX.refl (((hE1.setV r.1).setV r.2.1).setV r.2.2.1) hW1⟩
theorem parO_snd {is : List Nat} {es : Fb.Es} {os : List Bool} {ts vs : List Expr} {kt k2 : Nat} {pt pt2 pos : Pos} (A : AtS Γ X k N sc fb w0 H0 Y F) (h1 : parOk N sc is ts vs = true) (h3 : xsOk es os vs = true) (h2 : es.chk Γ N sc fb vs = true) (gd : es.good (XOk.G Γ X k Y)) :
    PS Y (.Assign [.Tuple ts kt pt] (.Tuple vs k2 pt2) pos) (tS Y.K X w0 H0 F ((S.parO is es os).ev)) := by
  have a := A.a
  have hA := sndX (w0 := w0) (H0 := H0) a es os vs h3 h2 gd
  have hk : Y.env.blockKind = .function := by
    unfold PySem.Env.blockKind
    rw [a.s, A.kind]
    rfl
  have nd : N.Nodup := by rw [← a.n]; exact a.ok.nd
  have open_ : ∀ {D : Ends} {σ : L2.St} {H : Hp} {R : List V → Hp → Prop}, tS Y.K X w0 H0 F ((S.parO is es os).ev) D σ H →
      (∀ (env env' : Env) (ss : List Sl) (vs : List V) (w' : Wo) (H' : Hp), env.length = σ.length → putMany is ss env = some env' → vs.length = ss.length → EnvOk Y.K w0 H0 (env ++ ss) w' (σ ++ vs.map some) H' → (∀ σ', EnvOk Y.K w0 H0 env' w' σ' H' → D.nx σ' H') → R vs H') →
      tX Y.K X w0 H0 F (slotsM es os) σ H R := fun {D σ H R} q g => by
    obtain ⟨w, st, env, hE, hW, q⟩ := q
    simp only [S.ev] at q
    rw [← M.bind_bind] at q
    refine ⟨w, st, env, [], [], hE.len, by simpa using hE, hW, outX_imp (outS_bind hE hW q) fun ss st1 w1 H1 e1 d1 z _ vs hE1 => ?_⟩
    obtain ⟨env', b, z⟩ := outS_lift z
    rw [List.nil_append, List.nil_append] at hE1
    have l1 := hE1.len
    rw [List.length_append, List.length_append, List.length_map, hE.len] at l1
    exact g env env' ss vs w1 H1 hE.len b (by omega) hE1 fun σ' hE2 => z w1 H1 σ' HX.refl hE2 d1
  match is, ts, h1 with
  | [i, j], [e1, e2], h1 =>
    simp only [parOk, Bool.and_eq_true, decide_eq_true_eq, Bool.not_eq_true'] at h1
    obtain ⟨l1, l2, l3, l4, l5, l6, l7⟩ := h1
    obtain ⟨x, px, rfl, n1, s1, p1⟩ := par2_of l3
    obtain ⟨y, py, rfl, n2, s2, p2⟩ := par2_of l4
    have nxy := ne_of_ix nd n1 n2 l2
    match vs, l1, hA with
    | [v1, v2], l1, hA =>
      rw [← a.s] at s1 s2
      refine PS.imp (ps_par a.ok.calm a.ok.nd (by rw [a.n]; exact n1) (by rw [a.n]; exact n2) l2 s1 s2 hA ?_ rfl) fun D σ H q => ?_
      · have hst := plain_stars l7
        have p2' : py.line = px.line := p2
        have k1 : Y.env.kindOf x = some .local := s1
        have k2 : Y.env.kindOf y = some .local := s2
        unfold swappedStores
        simp only
        rw [if_neg (by simp [hk])]
        refine (if_neg (fun z => Bool.false_ne_true (hst.symm.trans z))).trans ?_
        refine (if_neg ?_).trans ((if_neg ?_).trans ?_)
        · simp [Expr.pos, k1, k2, p2', List.eraseDups_cons, nxy, Ne.symm nxy]
        · rw [l5]; simp
        · rw [l6]; simp [Expr.pos, k1, k2, p2']
      · refine open_ q fun env env' ss vs w' H' hl b hv hE nx => ?_
        obtain ⟨b1, b2, s, t, rfl, rfl⟩ := putMany2 b
        match vs, hv with
        | [u, v], hv => exact ⟨u, v, rfl, nx _ (hE.put2 hl b1 b2 l2)⟩
  | [i, j, l], [e1, e2, e3], h1 =>
    simp only [parOk, Bool.and_eq_true, decide_eq_true_eq, Bool.not_eq_true'] at h1
    obtain ⟨l1, l2, l2b, l2c, l3, l4, l4b, l5, l6, l7⟩ := h1
    obtain ⟨x, px, rfl, n1, s1, p1⟩ := par2_of l3
    obtain ⟨y, py, rfl, n2, s2, p2⟩ := par2_of l4
    obtain ⟨z, pz, rfl, n3, s3, p3⟩ := par2_of l4b
    have nxy := ne_of_ix nd n1 n2 l2
    have nxz := ne_of_ix nd n1 n3 l2b
    have nyz := ne_of_ix nd n2 n3 l2c
    match vs, l1, hA with
    | [v1, v2, v3], l1, hA =>
      rw [← a.s] at s1 s2 s3
      refine PS.imp (ps_par3 a.ok.calm a.ok.nd (by rw [a.n]; exact n1) (by rw [a.n]; exact n2) (by rw [a.n]; exact n3) l2 l2b l2c s1 s2 s3 hA ?_ rfl) fun D σ H q => ?_
      · have hst := plain_stars l7
        have p2' : py.line = px.line := p2
        have p3' : pz.line = px.line := p3
        have k1 : Y.env.kindOf x = some .local := s1
        have k2 : Y.env.kindOf y = some .local := s2
        have k3 : Y.env.kindOf z = some .local := s3
        unfold swappedStores
        simp only
        rw [if_neg (by simp [hk])]
        refine (if_neg (fun z => Bool.false_ne_true (hst.symm.trans z))).trans ?_
        refine (if_neg ?_).trans ((if_neg ?_).trans ?_)
        · simp [Expr.pos, k1, k2, k3, p2', p3', List.eraseDups_cons, nxy, nxz, nyz, Ne.symm nxy, Ne.symm nxz, Ne.symm nyz]
        · rw [l5]; simp
        · rw [l6]; simp [Expr.pos, k1, k2, k3, p2', p3']
      · refine open_ q fun env env' ss vs w' H' hl b hv hE nx => ?_
        obtain ⟨b1, b2, b3, s, t, r, rfl, rfl⟩ := putMany3 b
        match vs, hv with
        | [u, v, t2], hv => exact ⟨u, v, t2, rfl, nx _ (hE.put3 hl b1 b2 b3 l2 l2b l2c)⟩
theorem nmOk_of {i : Nat} {e : Expr} (h : nmOk N sc fb i e = true) : ∃ x p, e = .Name x p ∧ N[i]? = some x ∧ locOk sc fb x = true := by
  cases e <;> try (exact absurd h Bool.false_ne_true)
  simp only [nmOk, Bool.and_eq_true, decide_eq_true_eq] at h
  exact ⟨_, _, rfl, h.1, h.2⟩
theorem parC_snd {is : List Nat} {es : Fb.Es} {os : List Bool} {ts vs : List Expr} {kt k2 : Nat} {pt pt2 pos : Pos} (A : AtS Γ X k N sc fb w0 H0 Y F) (h1 : parC N sc fb is ts vs = true) (h3 : xsOk es os vs = true) (h2 : es.chk Γ N sc fb vs = true) (gd : es.good (XOk.G Γ X k Y)) :
    PS Y (.Assign [.Tuple ts kt pt] (.Tuple vs k2 pt2) pos) (tS Y.K X w0 H0 F ((S.parO is es os).ev)) := by
  have a := A.a
  have hA := sndX (w0 := w0) (H0 := H0) a es os vs h3 h2 gd
  have nd : N.Nodup := by rw [← a.n]; exact a.ok.nd
  match is, ts, h1 with
  | [i, j], [e1, e2], h1 =>
    simp only [parC, Bool.and_eq_true, decide_eq_true_eq] at h1
    obtain ⟨l1, l2, l3, l4, l5⟩ := h1
    obtain ⟨x, px, rfl, n1, s1⟩ := nmOk_of l3
    obtain ⟨y, py, rfl, n2, s2⟩ := nmOk_of l4
    obtain ⟨f1, f2⟩ := loc_of a.s a.f s1
    obtain ⟨g1, g2⟩ := loc_of a.s a.f s2
    refine PS.imp (ps_asg (pe_tup hA) (pg_tup a.ok.calm (pgs_cons (pg_name a.ok.nd (by rw [a.n]; exact n1) f1 f2) (pgs_cons (pg_name a.ok.nd (by rw [a.n]; exact n2) g1 g2) pgs_nil)) (n := 2)) rfl (swapped_none a.s l5)) fun D σ H q => ?_
    obtain ⟨w, st, env, hE, hW, q⟩ := q
    simp only [S.ev] at q
    rw [← M.bind_bind] at q
    refine ⟨w, st, env, [], [], hE.len, by simpa using hE, hW, outX_imp (outS_bind hE hW q) fun ss st1 w1 H1 e1 d1 z _ vs' hE1 => ?_⟩
    obtain ⟨env', b, z⟩ := outS_lift z
    rw [List.nil_append, List.nil_append] at hE1
    have l6 := hE1.len
    rw [List.length_append, List.length_append, List.length_map, hE.len] at l6
    obtain ⟨b1, b2, s, t, rfl, rfl⟩ := putMany2 b
    have l7 : vs'.length = 2 := by
      simp only [List.length_cons, List.length_nil] at l6
      omega
    match vs', l7, hE1 with
    | [u, v], _, hE1 =>
      refine ⟨by rw [sizeLine_eq]; simp, fun p hp => ⟨p, [u, v], rfl, .inl (.inl upd_same), rfl, u, _, rfl, v, _, rfl, rfl, ?_⟩⟩
      have k9 : Same H1 (upd H1 p (.tup [u, v])) := fun c o hc => by
        rw [upd_ne (fun z => by subst z; rw [hp] at hc; cases hc)]
        exact hc
      obtain ⟨e2, d2⟩ := Ext.grown d1 k9
      exact z w1 _ _ (e2.hx d1) ((hE1.put2 hE.len b1 b2 l2).go d1 e2) d2
theorem sA_goE {K : PySem.W.Frag} {X : XR} {E : XK} {w : Wo} {H : Hp} {st : Sto} {env : Env} {σ : L2.St} {D : Ends} {m : Env → M (List Fb.D)} {f : List Fb.D → M Fl} {R : List V → Hp → Prop} (hE : EnvOk K w0 H0 env w σ H) (hW : Wd K st w H) (h : outS K X w0 H0 E w H (M.bind (m env) f st) D)
    (g : ∀ xs st1 w1 H1 vs, m env st = .ok xs st1 → EnvOk K w0 H0 env w1 σ H1 → Wd K st1 w1 H1 → Reps K w1 H1 xs vs → outS K X w0 H0 E w1 H1 (f xs st1) D → R vs H1) : tA K X w0 H0 E m σ H R := by
  have h2 := outS_bind hE hW h
  refine ⟨w, st, env, hE, hW, ?_⟩
  cases q : m env st with
  | ok xs st1 =>
    rw [q] at h2
    exact fun w1 H1 e d vs r => g xs st1 w1 H1 vs q (hE.go hW e) d r (h2 w1 H1 e d)
  | exc c p st1 => rw [q] at h2; exact h2
  | bad => rw [q] at h2; exact h2
theorem outS_calm {K : PySem.W.Frag} {X : XR} {E : XK} {w : Wo} {H : Hp} {st : Sto} {D : Ends} {α : Type} {m : M α} {f : α → M Fl} (h : outS K X w0 H0 E w H (M.bind (M.calm m) f st) D) : ∃ a st', m st = .ok a st' ∧ outS K X w0 H0 E w H (f a st') D := by
  unfold M.bind M.calm at h
  cases q : m st with
  | ok a s1 => rw [q] at h; exact ⟨a, s1, rfl, h⟩
  | exc c p s1 => rw [q] at h; exact h.elim
  | bad => rw [q] at h; exact h.elim
theorem own_lst {i : Nat} {es : Fb.Es} {x : Str} {p p2 pos : Pos} {xs : List Expr} (A : AtS Γ X k N sc fb w0 H0 Y F) (h1 : N[i]? = some x) (h2 : locOk sc fb x = true) (h3 : xs.length ≤ 1000) (h4 : es.chk Γ N sc fb xs = true) (gd : es.good (XOk.G Γ X k Y)) :
    PS Y (.Assign [.Name x p] (.List xs p2) pos) (tS Y.K X w0 H0 F (S.own i (.lst es)).ev) := by
  have a := A.a
  obtain ⟨l1, l2⟩ := loc_of a.s a.f h2
  refine PS.imp (ps_set a.ok.nd (by rw [a.n]; exact h1) l1 (pe_lst (sndEs (w0 := w0) (H0 := H0) es sc fb xs h4 Y F a gd)) rfl l2) fun D σ H q => ?_
  obtain ⟨w, st, env, hE, hW, q⟩ := q
  simp only [S.ev, E.ev, M.bind_bind] at q
  refine sA_goE hE hW q fun ys st1 w1 H1 vs e1 hE1 hW1 r z => ?_
  obtain ⟨y, b, z⟩ := outS_lift z
  obtain ⟨ps, b1, rfl⟩ := Option.map_eq_some_iff.mp b
  simp only [need] at z
  have hq := dpAll_of r b1
  split at z
  · rename_i hl
    refine ⟨?_, fun p hp => ?_⟩
    · have hz := small_es h3 h4 env _ _ _ e1
      rw [reps_len r, sizeLine_eq]; omega
    · obtain ⟨g1, g2, g3⟩ := hE1.ownNew hW1 hp hl hq
      exact z _ _ _ g3 g1 g2
  · exact z.elim
/-- name = list(x) -/
theorem own_list {i : Nat} {e : Fb.E} {x f : Str} {p p2 p3 pos : Pos} {y : Expr} (A : AtS Γ X k N sc fb w0 H0 Y F) (h1 : N[i]? = some x) (h2 : locOk sc fb x = true) (h3 : gloOk sc f "list" = true) (h5 : plainE y = true) (h4 : e.chk Γ N sc fb y = true) (gd : e.good (XOk.G Γ X k Y)) :
    PS Y (.Assign [.Name x p] (.Call (.Name f p2) [y] [] p3) pos) (tS Y.K X w0 H0 F (S.own i (.blt .list (.cons e .nil))).ev) := by
  have a := A.a
  obtain ⟨l1, l2⟩ := loc_of a.s a.f h2
  obtain ⟨g1, g2, g3, g4⟩ := glo_of a.s h3
  refine PS.imp (ps_set a.ok.nd (by rw [a.n]; exact h1) l1 (pe_callTy call_list_of g2 (by rw [g1]; exact a.ok.g.free "list" (by decide)) (by rw [g1]; exact boot_bl .list) (pa_cons (sndE (w0 := w0) (H0 := H0) e sc fb y h4 Y F a gd) pa_nil (star_cons h5)) g4 g3 (star_cons h5) rfl) rfl l2) fun D σ H q => ?_
  obtain ⟨w, st, env, hE, hW, q⟩ := q
  simp only [S.ev, E.ev, Es.ev, M.bind_bind, M.pure_bind] at q
  refine sE_go hE hW q fun d st1 w1 H1 v e1 hE1 hW1 r z => ?_
  have key : ∃ ps, (d = .d (.list ps) ∨ d = .d (.tuple ps)) ∧ outS Y.K X w0 H0 F w1 H1 ((if i < env.length then M.pure (Fl.nx (env.set i (.own ps))) else M.bad) st1) D := by
    rcases runD_cases .list [d] with ⟨h, _⟩ | h
    · cases h
    · rw [h] at z
      obtain ⟨o, z1, z⟩ := outS_lift z
      obtain ⟨q0, z2, rfl⟩ := Option.map_eq_some_iff.mp z1
      obtain ⟨l, z3, z4⟩ := Option.bind_eq_some_iff.mp z2
      cases d with
      | d pd =>
        simp only [datas, Option.map_some, Option.some.injEq] at z3
        subst z3
        cases pd <;> simp [Bl.run] at z4
        · subst z4; exact ⟨_, .inl rfl, z⟩
        · subst z4; exact ⟨_, .inr rfl, z⟩
      | ref n => simp [datas] at z3
      | scr ns => simp [datas] at z3
  obtain ⟨ps, hd, zz⟩ := key
  split at zz
  · rename_i hl
    rcases hd with rfl | rfl
    · cases r with
      | lst f1 f2 => exact ⟨_, _, rfl, .inl (.inl (.inl (hide_sub _ _ f1))), fun p hp => by
                      obtain ⟨g1, g2, g3⟩ := hE1.ownNew hW1 hp hl f2
                      exact zz _ _ _ g3 g1 g2⟩
    · cases r with
      | tup f1 f2 => exact ⟨_, _, rfl, .inr (seqT_mono hide_sub f1), fun p hp => by
                      obtain ⟨g1, g2, g3⟩ := hE1.ownNew hW1 hp hl f2
                      exact zz _ _ _ g3 g1 g2⟩
  · exact zz.elim
/-- name = [.. for ..] -/
theorem own_lc {i : Nat} {own : List Nat} {g : G} {x : Str} {p pos p2 : Pos} {elt : Expr} {gs : List Comprehension} {scope : Scope} (A : AtS Γ X k N sc fb w0 H0 Y F) (h1 : N[i]? = some x) (h2 : locOk sc fb x = true) (h4 : (Fb.E.lc own g).chk Γ N sc fb (.ListComp elt gs scope p2) = true) (gd : (Fb.E.lc own g).good (XOk.G Γ X k Y)) :
    PS Y (.Assign [.Name x p] (.ListComp elt gs scope p2) pos) (tS Y.K X w0 H0 F (S.own i (.lc own g)).ev) := by
  have a := A.a
  obtain ⟨l1, l2⟩ := loc_of a.s a.f h2
  obtain ⟨c, cs, vs, it, t', oc, g', rfl, rfl, f1, f2, f3, f4, f5, f6, f7, f8, f9, f10⟩ := lc_parts (w0 := w0) (H0 := H0) h4 a gd
  have fin : ∀ {D : Ends} {σ : L2.St} {H : Hp}, tS Y.K X w0 H0 F (S.own i (.lc own (.gen vs it t' oc g'))).ev D σ H → tLcN (crOf Y.K X w0 H0 F vs it t' oc) (G.crs Y.K X w0 H0 g') (tE Y.K X w0 H0 noE (G.elt g').ev) σ H fun v H' => gName i v σ H' D.nx := fun {D σ H} q => by
    obtain ⟨w, st, env, hE, hW, q⟩ := q
    simp only [S.ev, E.ev] at q
    obtain ⟨y, stF, e0, q⟩ := outS_calm q
    obtain ⟨ps, s2, e1, e2⟩ := bind_ok e0
    split at e2
    · rename_i hz
      cases e2
      simp only [need] at q
      split at q
      · rename_i hl
        exact lcN_read f10 hE hW e1 (fits_le hz) fun Dd w' H' acc hE' d' hh x' hx => q w' H' _ hx (hE'.ownAt hh hl) d'
      · exact q.elim
    · cases e2
  cases sw : (Y.env.blockKind == .function && Y.env.kindOf x == some .local && p.line == p2.line && !(scope.names.any fun (n, k) => n == x && (k == .local || k == .cell))) with
  | false =>
    refine PS.imp (ps_asg (pe_lcN a.ok.calm a.ok.nd f1 f2 f3 f4 f5 f6 f7 f8 f9) (pg_name a.ok.nd (by rw [a.n]; exact h1) l1 l2) (show swapsWith (.ListComp elt (c.c :: cs.map Cl.c) scope p2) (some (.Name x p)) pos.line Y.env = pure false by rw [swaps_lc, sw]) swapped_name rfl) fun D σ H q => fin q
  | true =>
    have hl : Y.env.scope.names.lookup x = some .local := by
      simp only [Bool.and_eq_true, beq_iff_eq] at sw
      exact sw.1.1.2
    exact PS.imp (ps_setLcN a.ok.calm a.ok.nd (by rw [a.n]; exact h1) hl (by rw [swaps_lc, sw]) f1 f2 f3 f4 f5 f6 f7 f8 f9) fun D σ H q => fin q
/-- own[k] = e -/
theorem oset_snd {i : Nat} {ke e : Fb.E} {x : Str} {p p2 pos : Pos} {c v : Expr} (A : AtS Γ X k N sc fb w0 H0 Y F) (h1 : N[i]? = some x) (h2 : visOk sc x = true) (h3 : noSlice c = true) (h4 : plainV v = true) (h5 : e.chk Γ N sc fb v = true) (h6 : ke.chk Γ N sc fb c = true) (gd : (S.oset i ke e).good (XOk.G Γ X k Y)) :
    PS Y (.Assign [.Subscript (.Name x p) c p2] v pos) (tS Y.K X w0 H0 F (S.oset i ke e).ev) := by
  have a := A.a
  obtain ⟨v1, v2, v3⟩ := vis_of a.s h2
  refine PS.imp (ps_asg (sndE (w0 := w0) (H0 := H0) e sc fb v h5 Y F a gd.2) (pg_sub (pe_var (by rw [a.n]; exact h1) v1 v2 v3) (sndE (w0 := w0) (H0 := H0) ke sc fb c h6 Y F a gd.1) set_list ?_) (by show swapsWith v (some (.Subscript (.Name x p) c p2)) pos.line Y.env = pure false; exact swaps_plain h4) ?_ rfl) fun D σ H q => ?_
  · intro v
    cases c <;> first | exact absurd h3 Bool.false_ne_true | rfl
  · cases v <;> rfl
  · obtain ⟨w, st, env, hE, hW, q⟩ := q
    simp only [S.ev] at q
    have key : ∃ ps, env[i]? = some (.own ps) ∧ outS Y.K X w0 H0 F w H (M.bind (e.ev env) (fun x => M.bind (ke.ev env) fun y => need x fun p => need y fun q => match q with
        | .int n => (match L2.ixN ps.length n with
          | some j => M.pure (.nx (env.set i (.own (ps.set j p))))
          | none => M.bad)
        | _ => M.bad) st) D := by
      cases q1 : env[i]? with
      | none => rw [q1] at q; exact q.elim
      | some sl =>
        rw [q1] at q
        cases sl with
        | own ps => exact ⟨ps, rfl, q⟩
        | _ => exact q.elim
    obtain ⟨ps, q1, q⟩ := key
    obtain ⟨la, vs, g1, g2, g3, g4, g5, g6⟩ := hE.own i ps q1
    refine sE_go hE hW q fun x st1 w1 H1 v e1 hE1 hW1 r z => ?_
    refine ⟨.ref la, g1, sE_go hE1 hW1 z fun y st2 w2 H2 u e2 hE2 hW2 r2 z => ?_⟩
    obtain ⟨pd, hpd, z1⟩ := outS_need z
    obtain ⟨qd, hqd, z2⟩ := outS_need z1
    subst hpd hqd
    have key2 : ∃ n j, qd = .int n ∧ L2.ixN ps.length n = some j ∧ outS Y.K X w0 H0 F w2 H2 (M.pure (.nx (env.set i (.own (ps.set j pd)))) st2) D := by
      cases qd <;> try (exact z2.elim)
      rename_i n
      cases q2 : L2.ixN ps.length n with
      | none => simp only [q2] at z2; exact z2.elim
      | some j => simp only [q2] at z2; exact ⟨n, j, rfl, q2, z2⟩
    obtain ⟨n, j, rfl, q2, zz⟩ := key2
    cases r2
    have e12 := e1.trans e2
    have g5' := e12.keep _ _ g5 g3
    have g3' := e12.notIn (by rw [g5]; simp) g3
    have g6' := dpAll_mono (e12.hx hW).hid g6
    have r' : Dq Y.K (hide w2.B H2) v pd := dp_mono (e2.hx hW1).hid r
    obtain ⟨f1, f2, f3⟩ := hE2.own2 hW2 q1 g1 (e12.up _ g2) g3' g4 (DqAll.set r' j g6')
    exact ⟨la, vs, n, j, rfl, rfl, g5', by rw [g6.length]; exact q2, zz _ _ _ f3 f1 f2⟩
theorem app_snd {i : Nat} {e : Fb.E} {x : Str} {p apos cpos pos : Pos} {y : Expr} (A : AtS Γ X k N sc fb w0 H0 Y F) (h1 : N[i]? = some x) (h2 : visOk sc x = true) (h3 : (apos.endLine == cpos.line) = true) (h4 : plainE y = true) (h5 : e.chk Γ N sc fb y = true) (gd : e.good (XOk.G Γ X k Y)) :
    PS Y (.Expr (.Call (.Attribute (.Name x p) "append" apos) [y] [] cpos) pos) (tS Y.K X w0 H0 F ((S.app i e).ev)) := by
  have a := A.a
  obtain ⟨v1, v2, v3⟩ := vis_of a.s h2
  have hb : (backTo cpos (starEach [y] Y.env)).all (fun x => !x.1) = true := by
    rw [star_cons h4]
    simp [starEach, backTo]
  refine PS.imp (ps_expr (pe_bm PySem.F.plainAttrs_list PySem.F.slot_list_append PySem.F.type_list_append mt_append (pe_var (by rw [a.n]; exact h1) v1 v2 v3) (pa_cons (sndE (w0 := w0) (H0 := H0) e sc fb y h5 Y F a gd) pa_nil (star_cons h4)) rfl ?_ h3 (star_cons h4) rfl) rfl) fun D σ H q => ?_
  · simp only [Bool.and_eq_true]
    exact ⟨⟨hb, rfl⟩, rfl⟩
  · obtain ⟨w, st, env, hE, hW, q⟩ := q
    simp only [S.ev] at q
    have key : ∃ ps, env[i]? = some (.own ps) ∧ outS Y.K X w0 H0 F w H (M.bind (e.ev env) (fun x => need x fun p => if ps.length < 16777216 then M.pure (.nx (env.set i (.own (ps ++ [p])))) else M.bad) st) D := by
      cases q1 : env[i]? with
      | none => rw [q1] at q; exact q.elim
      | some sl =>
        rw [q1] at q
        cases sl with
        | own ps => exact ⟨ps, rfl, q⟩
        | _ => exact q.elim
    obtain ⟨ps, q1, q⟩ := key
    obtain ⟨la, vs, g1, g2, g3, g4, g5, g6⟩ := hE.own i ps q1
    refine ⟨_, g1, .inl ⟨rfl, _, .inl (.inl g5)⟩, sE_go hE hW q fun x st1 w1 H1 v e1 hE1 hW1 r z => ?_⟩
    obtain ⟨pd, hpd, z⟩ := outS_need z
    subst hpd
    split at z
    · rename_i hl
      have g5' := e1.keep _ _ g5 g3
      have g3' := e1.notIn (by rw [g5]; simp) g3
      have g6' := dpAll_mono (e1.hx hW).hid g6
      obtain ⟨f1, f2, f3⟩ := hE1.app hW1 q1 g1 (e1.up _ g2) g3' g4 g6' r
      refine ⟨la, vs, v, rfl, rfl, g5', ?_, z _ _ _ f3 f1 f2⟩
      rw [g6.length, sizeLine_eq]; omega
    · exact z.elim
theorem bind_at {α β : Type} {m : M α} {f : α → M β} {st s' : Sto} {a : α} (h : m st = .ok a s') : M.bind m f st = f a s' := by
  unfold M.bind
  rw [h]
theorem bind_bad {α β : Type} {m : M α} {f : α → M β} {st : Sto} (h : m st = .bad) : M.bind m f st = .bad := by
  unfold M.bind
  rw [h]
def rsetRef (n : Nat) (k : Int) (v : Fb.D) : M Unit := fun s => match s[n]? with
  | some (.lst xs) => (match L2.ixN xs.length k with
    | some j => .ok () (s.set n (.lst (xs.set j v)))
    | none => .bad)
  | none => .bad
theorem rset_eq (n : Nat) (k : Int) (v : Fb.D) : rsetM (.ref n) (.int k) v = rsetRef n k v := rfl
theorem rset_cases (o : Fb.D) (kd : PyData) (x : Fb.D) : (∃ n ki, o = .ref n ∧ kd = .int ki) ∨ rsetM o kd x = M.bad := by
  cases o with
  | ref n => cases kd <;> first | exact .inl ⟨n, _, rfl, rfl⟩ | exact .inr rfl
  | d p => exact .inr rfl
  | scr ns => exact .inr rfl
theorem rset_ok {K : PySem.W.Frag} {X : XR} {E : XK} {w : Wo} {H : Hp} {st : Sto} {D : Ends} {o : Fb.D} {kd : PyData} {x : Fb.D} {f : Unit → M Fl} (h : outS K X w0 H0 E w H (M.bind (rsetM o kd x) f st) D) :
    ∃ n ki xs j, o = .ref n ∧ kd = .int ki ∧ st[n]? = some (.lst xs) ∧ L2.ixN xs.length ki = some j ∧ outS K X w0 H0 E w H (f () (st.set n (.lst (xs.set j x)))) D := by
  rcases rset_cases o kd x with ⟨n, ki, rfl, rfl⟩ | e
  · rw [rset_eq] at h
    cases q1 : st[n]? with
    | none =>
      have e : rsetRef n ki x st = .bad := by unfold rsetRef; rw [q1]
      rw [bind_bad e] at h
      exact h.elim
    | some ob =>
      cases ob with
      | lst xs =>
        cases q2 : L2.ixN xs.length ki with
        | none =>
          have e : rsetRef n ki x st = .bad := by unfold rsetRef; rw [q1]; simp only; rw [q2]
          rw [bind_bad e] at h
          exact h.elim
        | some j =>
          have e : rsetRef n ki x st = .ok () (st.set n (.lst (xs.set j x))) := by unfold rsetRef; rw [q1]; simp only; rw [q2]
          rw [bind_at e] at h
          exact ⟨n, ki, xs, j, rfl, rfl, q1, q2, h⟩
  · rw [e] at h
    exact h.elim
theorem rset_snd {o ie e : Fb.E} {b c x : Expr} {p pos : Pos} (A : AtS Γ X k N sc fb w0 H0 Y F) (h1 : noSlice c = true) (h2 : plainV x = true) (h3 : e.chk Γ N sc fb x = true) (h4 : o.chk Γ N sc fb b = true) (h5 : ie.chk Γ N sc fb c = true) (gd : (S.rset o ie e).good (XOk.G Γ X k Y)) :
    PS Y (.Assign [.Subscript b c p] x pos) (tS Y.K X w0 H0 F ((S.rset o ie e).ev)) := by
  have a := A.a
  refine PS.imp (ps_asg (sndE (w0 := w0) (H0 := H0) e sc fb x h3 Y F a gd.2.2) (pg_sub (sndE (w0 := w0) (H0 := H0) o sc fb b h4 Y F a gd.1) (sndE (w0 := w0) (H0 := H0) ie sc fb c h5 Y F a gd.2.1) set_list ?_) (by show swapsWith x (some (.Subscript b c p)) pos.line Y.env = pure false; exact swaps_plain h2) ?_ rfl) fun D σ H q => ?_
  · intro v
    cases c <;> first | exact absurd h1 Bool.false_ne_true | rfl
  · cases x <;> rfl
  · obtain ⟨w, st, env, hE, hW, q⟩ := q
    simp only [S.ev] at q
    refine sE_go hE hW q fun x st1 w1 H1 v e1 hE1 hW1 r z => ?_
    refine sE_go hE1 hW1 z fun y st2 w2 H2 u e2 hE2 hW2 r2 z => ?_
    refine sE_go hE2 hW2 z fun t st3 w3 H3 t' e3 hE3 hW3 r3 z => ?_
    obtain ⟨kd, hkd, z⟩ := outS_need z
    subst hkd
    have rx := rep_mono (e3.hx hW2) (rep_mono (e2.hx hW1) r)
    have ro := rep_mono (e3.hx hW2) r2
    obtain ⟨n, ki, xs, j, hy, hk, q1, q2, z9⟩ := rset_ok z
    subst hy hk
    cases r3
    obtain ⟨ad, m1, m2⟩ := ro
    subst m2
    obtain ⟨ad2, m3, vs, m4, m5⟩ := hW3.obs n _ q1
    rw [m1] at m3
    cases m3
    obtain ⟨f1, f2, f3⟩ := hE3.rset (j := j) hW3 m1 q1 m4 m5 rx
    exact ⟨ad, vs, ki, j, rfl, rfl, m4, by rw [reps_len m5]; exact q2, z9 _ _ _ f3 f1 f2⟩
theorem raise_snd {c m : String} {x s : Str} {j : Nat} {p p2 p3 pos : Pos} (A : AtS Γ X k N sc fb w0 H0 Y F) (h1 : Γ.exs c = true) (h2 : gloOk sc x c = true) (h3 : s = Str.ofString m) :
    PS Y (.Raise (some (.Call (.Name x p) [.Constant (.str s) j p2] [] p3)) none pos) (tS Y.K X w0 H0 F ((S.raise c m).ev)) := by
  have a := A.a
  obtain ⟨g1, g2, g3, g4⟩ := glo_of a.s h2
  subst g1 h3
  obtain ⟨C, e1, e2, e3, e4, e5⟩ := a.ok.g.exs c h1
  refine PS.imp (ps_raise a.ok.calm A.tk (pmk_own PySem.F.excBase_ValueError e2 e1 e3 (raises_own e4 e5) g2 g3)) fun D σ H q => ?_
  obtain ⟨w, st, env, hE, hW, q⟩ := q
  simp only [S.ev] at q
  exact q w H (.ref C) none hE.ext hW (A.ex c m C H h1 e1)
theorem ret_snd {e : Fb.E} {x : Expr} {pos : Pos} (A : AtS Γ X k N sc fb w0 H0 Y F) (h : e.chk Γ N sc fb x = true) (gd : e.good (XOk.G Γ X k Y)) : PS Y (.Return (some x) pos) (tS Y.K X w0 H0 F ((S.ret e).ev)) := by
  refine PS.imp (ps_ret (sndE (w0 := w0) (H0 := H0) e sc fb x h Y F A.a gd)) fun D σ H q => ?_
  obtain ⟨w, st, env, hE, hW, q⟩ := q
  simp only [S.ev] at q
  exact sE_go hE hW q fun x st1 w1 H1 v e1 hE1 hW1 r z => z w1 H1 v hE1.ext hW1 r
theorem expr_snd {e : Fb.E} {x : Expr} {pos : Pos} (A : AtS Γ X k N sc fb w0 H0 Y F) (h0 : plainV x = true) (h : e.chk Γ N sc fb x = true) (gd : e.good (XOk.G Γ X k Y)) : PS Y (.Expr x pos) (tS Y.K X w0 H0 F ((S.expr e).ev)) := by
  refine PS.imp (ps_expr (sndE (w0 := w0) (H0 := H0) e sc fb x h Y F A.a gd) (swaps_plain h0)) fun D σ H q => ?_
  obtain ⟨w, st, env, hE, hW, q⟩ := q
  simp only [S.ev] at q
  exact sE_go hE hW q fun x st1 w1 H1 v e1 hE1 hW1 r z => z w1 H1 σ HX.refl hE1 hW1
theorem for_snd {it : Fb.It} {t : T} {b : Fb.Ss} {tg iter : Expr} {body : List Stmt} {pos : Pos} (A : AtS Γ X k N sc fb w0 H0 Y F) (h1 : it.chk Γ N sc fb tg iter = true) (h2 : t.chk N sc fb tg = true) (gd : it.good (XOk.G Γ X k Y)) (hb : PSs Y body (tS Y.K X w0 H0 F (b.ev))) :
    PS Y (.For tg iter body [] pos) (tS Y.K X w0 H0 F ((S.for_ it t b).ev)) := by
  have a := A.a
  refine PS.imp (ps_for A.po a.ok.calm (sndI (w0 := w0) (H0 := H0) it sc fb tg iter h1 Y F a gd) (sndT (w0 := w0) (H0 := H0) rfl a.n a.ok.nd a.s a.f a.ok.calm t tg h2) hb (itNo h1)) fun D σ H q => ?_
  obtain ⟨w, st, env, hE, hW, q⟩ := q
  simp only [S.ev] at q
  refine ⟨w, st, env, hE, hW, outX_imp (outS_bind hE hW q) fun items st1 w1 H1 e1 hW1 z J wk => ?_⟩
  refine ⟨fun i m σ2 H2 => m = items.length - i ∧ i ≤ items.length ∧ ∃ (w2 : Wo) (st2 : Sto) (env2 : Env), HX w1 H1 w2 H2 ∧ EnvOk Y.K w0 H0 env2 w2 σ2 H2 ∧ Wd Y.K st2 w2 H2 ∧
    outS Y.K X w0 H0 F w2 H2 (forL (fun x env => M.bind (M.lift (t.bind x env)) fun env' => b.ev env') (items.drop i) env2 st2) D, ⟨items.length, rfl, Nat.zero_le _, w1, st1, env, HX.refl, hE.go hW e1, hW1, z⟩, ?_⟩
  rintro i m σ2 H2 ⟨rfl, hi, w2, st2, env2, x2, hE2, hW2, z2⟩
  by_cases hlt : i < items.length
  · have hit : items[i]? = some items[i] := List.getElem?_eq_getElem hlt
    obtain ⟨go, yd⟩ := wk.go w2 H2 i items[i] x2 hW2.dom hit
    rw [List.drop_eq_getElem_cons hlt] at z2
    simp only [forL, M.bind_bind] at z2
    obtain ⟨env', eb, z3⟩ := outS_lift z2
    refine .inr ⟨go, fun σ' H' => ∃ (w' : Wo) (st' : Sto) (env' : Env), HX w1 H1 w' H' ∧ EnvOk Y.K w0 H0 env' w' σ' H' ∧ Wd Y.K st' w' H' ∧
      outS Y.K X w0 H0 F w' H' (forL (fun x env => M.bind (M.lift (t.bind x env)) fun env' => b.ev env') (items.drop (i + 1)) env' st') D, fun σ' H' hn => ⟨items.length - (i + 1), by omega, rfl, hlt, hn⟩, fun v H3 y => ?_⟩
    obtain ⟨k3, r3⟩ := yd v H3 y
    obtain ⟨e3, d3⟩ := Ext.grown hW2 k3
    have h3 := e3.hx hW2
    refine ⟨w2, st2, env2, _, env', hE2.go hW2 e3, d3, r3, eb, fun σ' hE4 _ _ => ⟨w2, st2, env', hE4, d3, ?_⟩⟩
    exact outS_then (outS_mono h3 z3) rfl fun w' st' env'' σ'' H' x4 hE5 hW5 z5 => ⟨w', st', env'', (x2.trans h3).trans x4, hE5, hW5, z5⟩
  · have hi' : i = items.length := by omega
    subst hi'
    rw [List.drop_length] at z2
    simp only [forL] at z2
    exact .inl ⟨wk.stop w2 H2 x2, z2 w2 H2 σ2 HX.refl hE2 hW2⟩
theorem while_snd {c : Fb.E} {b : Fb.Ss} {ce : Expr} {body : List Stmt} {pos : Pos} (A : AtS Γ X k N sc fb w0 H0 Y F) (h1 : c.chk Γ N sc fb ce = true) (gd : c.good (XOk.G Γ X k Y)) (hb : PSs Y body (tS Y.K X w0 H0 F (b.ev))) :
    PS Y (.While ce body [] pos) (tS Y.K X w0 H0 F ((S.while_ c b).ev)) := by
  have a := A.a
  refine PS.imp (ps_while A.po (sndT2 (w0 := w0) (H0 := H0) c sc fb ce h1 Y F a gd) hb) fun D σ H q => ?_
  obtain ⟨w, st, env, hE, hW, q⟩ := q
  simp only [S.ev] at q
  refine ⟨fun m σ2 H2 => ∃ (w2 : Wo) (st2 : Sto) (env2 : Env), EnvOk Y.K w0 H0 env2 w2 σ2 H2 ∧ Wd Y.K st2 w2 H2 ∧ outS Y.K X w0 H0 F w2 H2 (whileL (fun env => c.tst env) (fun env => b.ev env) m env2 st2) D, ⟨100000, w, st, env, hE, hW, q⟩, ?_⟩
  rintro m σ2 H2 ⟨w2, st2, env2, hE2, hW2, z2⟩
  cases m with
  | zero => exact z2.elim
  | succ m =>
    simp only [whileL] at z2
    refine sT_go hE2 hW2 z2 fun kb st3 w3 H3 e3 hE3 hW3 z => ?_
    cases kb with
    | true =>
      rw [if_pos rfl] at z ⊢
      refine ⟨fun σ' H' => ∃ (w' : Wo) (st' : Sto) (env' : Env), EnvOk Y.K w0 H0 env' w' σ' H' ∧ Wd Y.K st' w' H' ∧ outS Y.K X w0 H0 F w' H' (whileL (fun env => c.tst env) (fun env => b.ev env) m env' st') D,
        fun σ' H' hn => ⟨m, Nat.lt_succ_self _, hn⟩, w3, st3, env2, hE3, hW3, ?_⟩
      exact outS_then z rfl fun w' st' env'' σ'' H' x4 hE5 hW5 z5 => ⟨w', st', env'', hE5, hW5, z5⟩
    | false =>
      rw [if_neg Bool.false_ne_true] at z ⊢
      exact z w3 H3 σ2 HX.refl hE3 hW3
theorem ifs_snd {t : Fb.E} {a b : Fb.Ss} {c : Expr} {p q : List Stmt} {pos : Pos} (A : AtS Γ X k N sc fb w0 H0 Y F) (h1 : t.chk Γ N sc fb c = true) (gd : t.good (XOk.G Γ X k Y)) (ha : PSs Y p (tS Y.K X w0 H0 F (a.ev))) (hb : PSs Y q (tS Y.K X w0 H0 F (b.ev))) :
    PS Y (.If c p q pos) (tS Y.K X w0 H0 F ((S.ifs t a b).ev)) := by
  refine PS.imp (ps_if (sndT2 (w0 := w0) (H0 := H0) t sc fb c h1 Y F A.a gd) ha hb) fun D σ H q => ?_
  obtain ⟨w, st, env, hE, hW, q⟩ := q
  simp only [S.ev] at q
  refine sT_go hE hW q fun kb st1 w1 H1 e1 hE1 hW1 z => ?_
  cases kb with
  | true =>
    rw [if_pos rfl] at z ⊢
    exact ⟨w1, st1, env, hE1, hW1, z⟩
  | false =>
    rw [if_neg Bool.false_ne_true] at z ⊢
    exact ⟨w1, st1, env, hE1, hW1, z⟩
theorem cons_snd {i : Fb.S} {is : Fb.Ss} {s : Stmt} {ss : List Stmt} (h1 : PS Y s (tS Y.K X w0 H0 F (i.ev))) (h2 : PSs Y ss (tS Y.K X w0 H0 F (is.ev))) : PSs Y (s :: ss) (tS Y.K X w0 H0 F ((Ss.cons i is).ev)) := by
  refine PSs.imp (pss_cons h1 h2) fun D σ H q => ?_
  obtain ⟨w, st, env, hE, hW, q⟩ := q
  simp only [Ss.ev] at q
  exact ⟨w, st, env, hE, hW, outS_then q rfl fun w' st' env' σ' H' x hE' hW' z => ⟨w', st', env', hE', hW', z⟩⟩
theorem frz_snd {i : Nat} {is : Fb.Ss} {ss : List Stmt} (A : AtS Γ X k N sc fb w0 H0 Y F) (h2 : PSs Y ss (tS Y.K X w0 H0 F (is.ev))) : PSs Y ss (tS Y.K X w0 H0 F ((Ss.cons (.frz i) is).ev)) := by
  refine PSs.imp h2 fun D σ H q => ?_
  obtain ⟨w, st, env, hE, hW, q⟩ := q
  simp only [Ss.ev, S.ev] at q
  cases q1 : env[i]? with
  | none => rw [q1] at q; exact q.elim
  | some sl =>
    rw [q1] at q
    cases sl with
    | own xs =>
      obtain ⟨w', g1, g2, g3⟩ := hE.frz A.d0 hW q1
      exact ⟨w', st, _, g1, g2, outS_mono g3 q⟩
    | _ => exact q.elim
theorem own_snd {i : Nat} {e : Fb.E} {x : Str} {p pos : Pos} {v : Expr} (A : AtS Γ X k N sc fb w0 H0 Y F) (h1 : N[i]? = some x) (h2 : locOk sc fb x = true) (h3 : freshB Γ sc e v = true) (h4 : e.chk Γ N sc fb v = true) (gd : e.good (XOk.G Γ X k Y)) :
    PS Y (.Assign [.Name x p] v pos) (tS Y.K X w0 H0 F (S.own i e).ev) := by
  unfold freshB at h3
  split at h3
  · simp only [E.chk, Bool.and_eq_true, decide_eq_true_eq] at h4
    exact own_lst A h1 h2 h4.1 h4.2 gd
  · exact own_lc A h1 h2 h4 gd
  · simp only [E.chk, Es.chk, Bool.and_eq_true] at h4
    exact own_list A h1 h2 h3 h4.2.2.1 h4.2.2.2.1 gd.1
  · cases h3
mutual
theorem sndS (A : AtS Γ X k N sc fb w0 H0 Y F) : ∀ (ir : Fb.S) (s : Stmt), ir.chk Γ N sc fb s = true → ir.good (XOk.G Γ X k Y) → PS Y s (tS Y.K X w0 H0 F (ir.ev))
  | .set t e, s, h, gd => by
    cases s <;> try (exact absurd h Bool.false_ne_true)
    rename_i ts x pos
    match ts, h with
    | [tg], h =>
      simp only [S.chk, Bool.and_eq_true] at h
      exact set_snd A h.1 h.2.1 h.2.2 gd
  | .par is es, s, h, gd => by
    cases s <;> try (exact absurd h Bool.false_ne_true)
    rename_i ts x pos
    match ts, x, h with
    | [.Tuple ts _ _], .Tuple vs _ _, h =>
      simp only [S.chk, Bool.and_eq_true] at h
      exact par_snd A h.1 h.2 gd
  | .parO is es os, s, h, gd => by
    cases s <;> try (exact absurd h Bool.false_ne_true)
    rename_i ts x pos
    match ts, x, h with
    | [.Tuple ts _ _], .Tuple vs _ _, h =>
      simp only [S.chk, Bool.and_eq_true] at h
      rw [Bool.or_eq_true] at h
      rcases h.1.1 with h0 | h0
      · exact parO_snd A h0 h.1.2 h.2 gd
      · exact parC_snd A h0 h.1.2 h.2 gd
  | .own i e, s, h, gd => by
    cases s <;> try (exact absurd h Bool.false_ne_true)
    rename_i ts x pos
    cases ts with
    | nil => exact absurd h Bool.false_ne_true
    | cons t0 ts =>
      cases t0 <;> try (exact absurd h Bool.false_ne_true)
      cases ts with
      | cons _ _ => exact absurd h Bool.false_ne_true
      | nil =>
        simp only [S.chk, Bool.and_eq_true, decide_eq_true_eq] at h
        obtain ⟨⟨h1, h2⟩, h3, h4⟩ := h
        exact own_snd A h1 h2 h3 h4 gd
  | .oset i ke e, s, h, gd => by
    cases s <;> try (exact absurd h Bool.false_ne_true)
    rename_i ts x pos
    match ts, h with
    | [.Subscript (.Name y _) b _], h =>
      simp only [S.chk, Bool.and_eq_true, decide_eq_true_eq] at h
      exact oset_snd A h.1.1 h.1.2 h.2.1 h.2.2.1 h.2.2.2.1 h.2.2.2.2 gd
  | .app i e, s, h, gd => by
    cases s <;> try (exact absurd h Bool.false_ne_true)
    rename_i x pos
    match x, h with
    | .Call (.Attribute (.Name x _) a apos) [y] [] cpos, h =>
      simp only [S.chk, Bool.and_eq_true, decide_eq_true_eq] at h
      obtain ⟨h1, h2, h3, h4, h5, h6⟩ := h
      subst h3
      exact app_snd A h1 h2 h4 h5 h6 gd
  | .rset o i e, s, h, gd => by
    cases s <;> try (exact absurd h Bool.false_ne_true)
    rename_i ts x pos
    match ts, h with
    | [.Subscript a b _], h =>
      simp only [S.chk, Bool.and_eq_true] at h
      exact rset_snd A h.1 h.2.1 h.2.2.1 h.2.2.2.1 h.2.2.2.2 gd
  | .expr e, s, h, gd => by
    cases s <;> try (exact absurd h Bool.false_ne_true)
    simp only [S.chk, Bool.and_eq_true] at h
    exact expr_snd A h.1 h.2 gd
  | .ret e, s, h, gd => by
    cases s <;> try (exact absurd h Bool.false_ne_true)
    rename_i x pos
    match x, h with
    | some x, h => exact ret_snd A h gd
  | .retN, s, h, gd => by
    cases s <;> try (exact absurd h Bool.false_ne_true)
    rename_i x pos
    match x, h with
    | none, h =>
      refine PS.imp ps_retN fun D σ H q => ?_
      obtain ⟨w, st, env, hE, hW, q⟩ := q
      simp only [S.ev] at q
      exact q w H .non hE.ext hW .non
  | .ifs t a b, s, h, gd => by
    cases s <;> try (exact absurd h Bool.false_ne_true)
    simp only [S.chk, Bool.and_eq_true] at h
    exact ifs_snd A h.1 gd.1 (sndSs A a _ h.2.1 gd.2.1) (sndSs A b _ h.2.2 gd.2.2)
  | .for_ it t b, s, h, gd => by
    cases s <;> try (exact absurd h Bool.false_ne_true)
    rename_i tg iter body orelse pos
    match orelse, h with
    | [], h =>
      simp only [S.chk, Bool.and_eq_true] at h
      exact for_snd A h.1 h.2.1 gd.1 (sndSs A b _ h.2.2 gd.2)
  | .while_ t b, s, h, gd => by
    cases s <;> try (exact absurd h Bool.false_ne_true)
    rename_i c body orelse pos
    match orelse, h with
    | [], h =>
      simp only [S.chk, Bool.and_eq_true] at h
      exact while_snd A h.1 gd.1 (sndSs A b _ h.2 gd.2)
  | .raise c m, s, h, gd => by
    cases s <;> try (exact absurd h Bool.false_ne_true)
    rename_i e c2 pos
    match e, c2, h with
    | some (.Call (.Name x _) [.Constant (.str s) _ _] [] _), none, h =>
      simp only [S.chk, Bool.and_eq_true, decide_eq_true_eq] at h
      exact raise_snd A h.1 h.2.1 h.2.2
  | .frz _, s, h, gd => by cases s <;> exact absurd h Bool.false_ne_true
termination_by ir => sizeOf ir
decreasing_by all_goals (simp_wf; omega)
theorem sndSs (A : AtS Γ X k N sc fb w0 H0 Y F) : ∀ (is : Fb.Ss) (ss : List Stmt), is.chk Γ N sc fb ss = true → is.good (XOk.G Γ X k Y) → PSs Y ss (tS Y.K X w0 H0 F (is.ev))
  | .nil, ss, h, gd => by
    match ss, h with
    | [], h =>
      refine PSs.imp pss_nil fun D σ H q => ?_
      obtain ⟨w, st, env, hE, hW, q⟩ := q
      simp only [Ss.ev] at q
      exact q w H σ HX.refl hE hW
  | .cons i is, ss, h, gd => by
    by_cases hf : ∃ j, i = .frz j
    · obtain ⟨j, rfl⟩ := hf
      have h' : is.chk Γ N sc fb ss = true := by cases ss <;> exact h
      exact frz_snd A (sndSs A is ss h' gd.2)
    · have h' : ∃ s r, ss = s :: r ∧ i.chk Γ N sc fb s = true ∧ is.chk Γ N sc fb r = true := by
        cases ss with
        | nil => cases i <;> first | exact absurd h Bool.false_ne_true | exact absurd ⟨_, rfl⟩ hf
        | cons s r =>
          refine ⟨s, r, rfl, ?_⟩
          rw [← Bool.and_eq_true]
          cases i <;> first | exact h | exact absurd ⟨_, rfl⟩ hf
      obtain ⟨s, r, rfl, h1, h2⟩ := h'
      exact cons_snd (sndS A i s h1 gd.1) (sndSs A is r h2 gd.2)
termination_by is => sizeOf is
decreasing_by all_goals (simp_wf; omega)
end
end
end Fb

set_option Elab.async false
set_option linter.all false
set_option maxRecDepth 100000
set_option maxHeartbeats 4000000
/-! defs, the table of defs, the law's call -/
namespace Fb
open PySem PySem.Spec PyProof.Rows L2

/-! ### a def by its body -/
theorem def_g {P : Program} {w : World} {K : PySem.W.Frag} {mg : Str → Option Value} {base : Heap} {k : Nat} {x qual : Str} {params : Arguments} {body : List Stmt} {scope : Scope} {dvs : List V} {kws : List (Str × V)} {f : Addr} {fd : FuncData} {N ps : List Str} {sp : Sp}
    (F : FunD K x qual params body scope dvs kws f fd) (S : FnScope N ps scope) (len : ∀ vs H Q E, sp vs H Q E → vs.length = ps.length)
    (walk : ∀ (cdv : Value) (A : Around) (outer : List PySem.Env) (s : Shared) (H : Hp) (vs : List V) (Q : VK) (E : XK), Room k (A.deeper (envOfC qual scope s.heap.objs.size f cdv)) → A.guards = some [] → sp vs H Q E →
      ∃ t, PSs (cxOf (L2.CX P w) P w K mg base N qual scope f cdv A outer s H E) body t ∧ t { nx := fun _ H' => Q .non H', rt := Q } (start N vs) H) : FnG P w K mg base (k + 1) f fd ps sp := by
  obtain ⟨oc, od, dV, kV, doc, pm, an, cdv, ct, osl, e, lk, hcd, _, _⟩ := F.ex
  subst e
  constructor
  · exact len
  · intro A outer s H args us vs Q E room gu here binds r sp0
    have KS : K.In s.heap := here.mod.kin.keeps fun b o q => (here.bs b o q).1
    have places : ∀ y ∈ ps.zip us, scope.names.lookup y.1 = some .local ∨ (scope.names.lookup y.1 = some .cell ∧ ((cellsFrom (s.heap.objs.size + 1) scope.names []).lookup y.1).isSome = true) := by
      rintro ⟨n, v⟩ hy
      rcases S.par n (List.of_mem_zip hy).1 with q | q
      · exact .inl q
      · exact .inr ⟨q, PySem.W.cellsFrom_some _ _ _ (.inl q)⟩
    apply codeAny_call_function room.depth (KS _ _ lk) rfl S.co S.gen rfl (PySem.W.codeRec_of KS hcd)
    apply binds
    apply wpAny_newFunctionEnv_cells S.kind places
    intro env he s1 inside
    subst he
    constructor
    · exact (here.mod.nolimit.keeps fun b o q => (here.bs b o q).1).keeps inside.toInCall.keep
    · apply codeAny_func
      obtain ⟨t, walked, now⟩ := walk cdv A outer s H vs Q E (room.deeper _) gu sp0
      have I := inv_start (cd := cdv) (mg := mg) (qual := qual) (f := f) (CX := L2.CX P w) (E := E) S room.hd here (len _ _ _ _ sp0) r inside
      refine wpAny_mono (walked.run [] s1 (start N vs) H _ I now) ?_ (fun _ _ z => z)
      intro fl s' ends
      cases fl with
      | next =>
        obtain ⟨σ', H', J, q⟩ := ends
        exact ⟨.non, H', J.os, J.bare, J.base, J.hok, rfl, q⟩
      | ret u =>
        obtain ⟨v, σ', H', J, rv, q⟩ := ends
        exact ⟨v, H', J.os, J.bare, J.base, J.hok, rv, q⟩
      | brk =>
        obtain ⟨_, _, _, q⟩ := ends
        exact q.elim
      | cont =>
        obtain ⟨_, _, _, q⟩ := ends
        exact q.elim

/-! ### constants of the text -/
mutual
def datB (K : PySem.W.Frag) : PyData → Value → Bool
  | .none, .none => true
  | .bool b, .bool c => b == c
  | .int i, .int j _ => decide (i = j)
  | .str x, .str y _ => decide (x = y)
  | .tuple ps, .ref a => (match K.lookup a with
    | some ⟨.type c, _, .seq its _, _⟩ => decide (c = "tuple") && (decide (its.size ≤ sizeLine) && datBs K ps its.toList)
    | _ => false)
  | _, _ => false
def datBs (K : PySem.W.Frag) : List PyData → List Value → Bool
  | [], [] => true
  | p :: ps, u :: us => datB K p u && datBs K ps us
  | _, _ => false
end
mutual
theorem datB_ok {K : PySem.W.Frag} : ∀ (p : PyData) (u : Value), datB K p u = true → ∃ v, RelV v u ∧ ∀ H, Dq K H v p
  | .none, u, h => by cases u <;> first | exact absurd h Bool.false_ne_true | exact ⟨.non, rfl, fun _ => .non⟩
  | .bool b, u, h => by
    cases u <;> try (exact absurd h Bool.false_ne_true)
    simp only [datB, beq_iff_eq] at h
    subst h
    exact ⟨.bl _, rfl, fun _ => .bl _⟩
  | .int b, u, h => by
    cases u <;> try (exact absurd h Bool.false_ne_true)
    simp only [datB, decide_eq_true_eq] at h
    subst h
    exact ⟨.int _, ⟨_, rfl⟩, fun _ => .int _⟩
  | .str b, u, h => by
    cases u <;> try (exact absurd h Bool.false_ne_true)
    simp only [datB, decide_eq_true_eq] at h
    subst h
    exact ⟨.str _, ⟨_, rfl⟩, fun _ => .str _⟩
  | .tuple ps, u, h => by
    cases u <;> try (exact absurd h Bool.false_ne_true)
    rename_i a
    simp only [datB] at h
    cases q : K.lookup a with
    | none => rw [q] at h; cases h
    | some o =>
      obtain ⟨oc, od, dt, osl⟩ := o
      rw [q] at h
      cases oc <;> cases dt <;> try (exact absurd h Bool.false_ne_true)
      simp only [Bool.and_eq_true, decide_eq_true_eq] at h
      obtain ⟨h1, h2, h3⟩ := h
      obtain ⟨vs, r, d⟩ := datBs_ok ps _ h3
      exact ⟨.ref a, rfl, fun H => .tup (.inr ⟨_, _, _, q, congrArg Value.type h1, rfl, h2, r⟩) (d H)⟩
  | .list _, u, h => by cases u <;> exact absurd h Bool.false_ne_true
  | .dict _, u, h => by cases u <;> exact absurd h Bool.false_ne_true
theorem datBs_ok {K : PySem.W.Frag} : ∀ (ps : List PyData) (us : List Value), datBs K ps us = true → ∃ vs, Vals vs us ∧ ∀ H, DqAll K H vs ps
  | [], [], _ => ⟨[], .nil, fun _ => .nil⟩
  | p :: ps, u :: us, h => by
    simp only [datBs, Bool.and_eq_true] at h
    obtain ⟨v, r, d⟩ := datB_ok p u h.1
    obtain ⟨vs, rs, ds⟩ := datBs_ok ps us h.2
    exact ⟨v :: vs, .cons r rs, fun H => .cons (d H) (ds H)⟩
  | [], _ :: _, h => absurd h Bool.false_ne_true
  | _ :: _, [], h => absurd h Bool.false_ne_true
end
def conB (K : PySem.W.Frag) (x : Str) (p : PyData) : Bool := match PySem.W.nsIn K mainGlobals x with
  | some (some u) => datB K p u
  | _ => false

/-! ### the table of a text's defs -/
structure Ent where
  nm : String
  d : He.DefD
  N : List Str
  ps : List Str
structure Tbl where
  ents : List Ent
  con : List (String × PyData)
  exs : List String
  ren : List (String × String)
def Tbl.rn (T : Tbl) (x : String) : String := ((T.ren.find? fun q => q.1 == x).map (·.2)).getD x
def Tbl.cons (T : Tbl) : String → Option PyData := fun x => (T.con.find? fun q => q.1 == x).map (·.2)
def Tbl.info (T : Tbl) : Info := ⟨T.cons, fun c => T.exs.contains c, T.rn⟩
def Ent.okB (Γ : Info) (e : Ent) (fn : Fn) : Bool := decide (e.d.at_ = (Str.ofString e.nm, none)) && (decide (e.d.scope.kind = .function) && (!e.d.scope.isCoroutine && (!e.d.scope.isGenerator && (decide e.N.Nodup && (decide (e.N.take e.ps.length = e.ps) &&
  (e.ps.all (fun x => decide (e.d.scope.names.lookup x = some .local) || decide (e.d.scope.names.lookup x = some .cell)) && (e.d.scope.names.all (fun y => decide (y.2 ≠ .free)) && (decide (fn.ps = e.ps.length) && (decide (fn.ns = e.N.length) &&
  (fn.body.chk Γ e.N e.d.scope (fun _ => true) e.d.body && (e.d.dfl.isEmpty && e.d.kwd.isEmpty)))))))))))
theorem Ent.scope {Γ : Info} {e : Ent} {fn : Fn} (h : e.okB Γ fn = true) : FnScope e.N e.ps e.d.scope ∧ fn.ps = e.ps.length ∧ fn.ns = e.N.length ∧ fn.body.chk Γ e.N e.d.scope (fun _ => true) e.d.body = true ∧ e.d.dfl = [] ∧ e.d.kwd = [] ∧ e.d.at_ = (Str.ofString e.nm, none) := by
  unfold Ent.okB at h
  simp only [Bool.and_eq_true, decide_eq_true_eq, Bool.not_eq_true', List.all_eq_true, Bool.or_eq_true, List.isEmpty_iff] at h
  obtain ⟨h0, h1, h2, h3, h4, h5, h6, h7, h8, h9, h10, h11, h12⟩ := h
  exact ⟨⟨h1, h2, h3, h4, h5, h6, h7⟩, h8, h9, h10, h11, h12, h0⟩
def Tbl.fa (T : Tbl) : List He.Fa := T.ents.map (fun e => He.Fa.glo (Str.ofString e.nm)) ++ (bltNames.map (fun x => He.Fa.free (Str.ofString x)) ++ (T.exs.map (fun x => He.Fa.glo (Str.ofString x)) ++ T.exs.map (fun x => He.Fa.exc (Str.ofString x))))
def Tbl.fd (T : Tbl) : List He.DefD := T.ents.map (·.d)
def Tbl.ex (T : Tbl) (K : PySem.W.Frag) : Bool := T.con.all fun q => conB K (Str.ofString (T.rn q.1)) q.2
/-- how a def's arguments bind -/
def Ent.Binds (e : Ent) : Prop := ∀ (kV doc pm : Value) (an : Option Addr) (cdv ct : Value) (us : List Value), us.length = e.ps.length → bindArgs (PySem.W.fnOf e.d.name e.d.qual e.d.params e.d.body e.d.scope .none kV doc pm an cdv ct) ⟨us, []⟩ = pure (e.ps.zip us)

section
variable {K : PySem.W.Frag} {X : XR} {E : XK} {w0 : Wo} {H : Hp} {st : Sto} {Q : VK}
theorem outX_body {m : M Fl} (h : outX K X E w0 H (M.bind m (fun r => match r with
    | .nx _ => M.pure non
    | .ret v => M.pure v) st) (fin K Q)) : outS K X w0 H E w0 H (m st) { nx := fun _ H' => Q .non H', rt := Q } := by
  unfold M.bind at h
  cases q : m st with
  | ok r st1 =>
    rw [q] at h
    cases r with
    | nx env => exact fun w' H' σ _ hE hW => h w' H' hE.ext hW .non .non
    | ret x => exact fun w' H' v e d r => h w' H' e d v r
  | exc c p st1 => rw [q] at h; exact h
  | bad => rw [q] at h; exact h
theorem reps_get {w : Wo} : ∀ {ds : List D} {vs : List V} {i : Nat} {x : D}, Reps K w H ds vs → ds[i]? = some x → ∃ v, vs[i]? = some v ∧ Rep K w H x v
  | [], [], _, _, _, e => by simp at e
  | _ :: _, _ :: _, 0, _, r, e => by simp at e; subst e; exact ⟨_, rfl, r.1⟩
  | _ :: _, _ :: _, i + 1, _, r, e => by
    obtain ⟨v, h1, h2⟩ := reps_get (i := i) r.2 (by simpa using e)
    exact ⟨v, by simpa using h1, h2⟩
  | [], _ :: _, _, _, r, _ => r.elim
  | _ :: _, [], _, _, r, _ => r.elim
theorem env_start {N : List Str} {ds : List D} {vs : List V} (hl : ds.length ≤ N.length) (r : Reps K w0 H ds vs) : EnvOk K w0 H (startE N.length ds) w0 (L2.start N vs) H := by
  have no : ∀ (i : Nat) (ps : List PyData), (startE N.length ds)[i]? ≠ some (.own ps) := fun i ps q => by
    unfold startE at q
    rw [List.getElem?_append] at q
    split at q
    · rw [List.getElem?_map] at q
      obtain ⟨z, _, z2⟩ := Option.map_eq_some_iff.mp q
      cases z2
    · rw [List.getElem?_replicate] at q
      split at q <;> cases q
  refine ⟨Ext.refl, ?_, fun i x q => ?_, fun i ps q => absurd q (no i ps), fun i j ps qs a q => absurd q (no i ps)⟩
  · unfold startE L2.start
    have := reps_len r
    simp
    omega
  · unfold startE at q
    rw [List.getElem?_append] at q
    split at q
    · rename_i hi
      rw [List.getElem?_map] at q
      obtain ⟨z, z1, z2⟩ := Option.map_eq_some_iff.mp q
      cases z2
      obtain ⟨v, h1, h2⟩ := reps_get r z1
      refine ⟨v, ?_, h2⟩
      unfold L2.start
      have := (List.getElem?_eq_some_iff.mp h1).1
      rw [List.getElem?_append_left (by simpa using this), List.getElem?_map, h1]
      rfl
    · rw [List.getElem?_replicate] at q
      split at q <;> cases q
end

/-! ### every def of the table keeps its promise -/
structure Facts (T : Tbl) (K : PySem.W.Frag) (mg : Str → Option Value) : Prop where
  glo : ∀ e ∈ T.ents, mg (Str.ofString e.nm) = some (.ref (He.ga K (Str.ofString e.nm)))
  def_ : ∀ e ∈ T.ents, ∃ fd, FunD K e.d.name e.d.qual e.d.params e.d.body e.d.scope (e.d.dvs K) (e.d.kws K) (He.fAd K e.d.at_) fd
  free : ∀ x ∈ bltNames, mg (Str.ofString x) = none
  exs : ∀ c ∈ T.exs, mg (Str.ofString c) = some (.ref (He.ga K (Str.ofString c))) ∧ PySem.W.excIn K (He.ga K (Str.ofString c)) He.veBase "ValueError.__new__" = true ∧ PySem.W.keepIn K (.ref (He.ga K (Str.ofString c))) = true ∧
    PySem.W.subIn K (.ref (He.ga K (Str.ofString c))) (.type "BaseException") = some true ∧ PySem.W.typeIn K (.ref (He.ga K (Str.ofString c))) = some (.type "type")
  con : ∀ q ∈ T.con, ∃ u v, mg (Str.ofString (T.rn q.1)) = some u ∧ RelV v u ∧ ∀ H, Dq K H v q.2
theorem facts_of {T : Tbl} {K : PySem.W.Frag} {h : Heap} {mg : Str → Option Value} {w : World} (KX : K.In h) (G : h.Ns mainGlobals mg) (c : He.SaysX T.fa T.fd [] [] T.ex w h K) : Facts T K mg := by
  have cd := c.t.d
  refine ⟨fun e he => He.glo_ok KX G (cd.facts (f := .glo (Str.ofString e.nm)) ?_), fun e he => ?_, fun x hx => He.free_ok KX G (cd.facts (f := .free (Str.ofString x)) ?_), fun x hx => ⟨He.glo_ok KX G (cd.facts (f := .glo (Str.ofString x)) ?_), He.exc_ok (cd.facts (f := .exc (Str.ofString x)) ?_)⟩, fun q hq => ?_⟩
  · exact List.mem_append_left _ (List.mem_map.mpr ⟨e, he, rfl⟩)
  · exact cd.defs (d := e.d) (List.mem_map.mpr ⟨e, he, rfl⟩)
  · exact List.mem_append_right _ (List.mem_append_left _ (List.mem_map.mpr ⟨x, hx, rfl⟩))
  · exact List.mem_append_right _ (List.mem_append_right _ (List.mem_append_left _ (List.mem_map.mpr ⟨x, hx, rfl⟩)))
  · exact List.mem_append_right _ (List.mem_append_right _ (List.mem_append_right _ (List.mem_map.mpr ⟨x, hx, rfl⟩)))
  · have c1 := List.all_eq_true.mp (show T.con.all (fun q => conB K (Str.ofString (T.rn q.1)) q.2) = true from c.more) q hq
    unfold conB at c1
    cases e : PySem.W.nsIn K mainGlobals (Str.ofString (T.rn q.1)) with
    | none => rw [e] at c1; cases c1
    | some o =>
      cases o with
      | none => rw [e] at c1; cases c1
      | some u =>
        rw [e] at c1
        obtain ⟨v, r, d⟩ := datB_ok q.2 u c1
        exact ⟨u, v, PySem.W.mg_of KX G e, r, d⟩
theorem gok {T : Tbl} {P : Program} {w : World} {K : PySem.W.Frag} {mg : Str → Option Value} {base : Heap} (FA : Facts T K mg) : GOk T.info P w K mg base := by
  refine ⟨fun x p hp => ?_, FA.free, fun c hc => ?_⟩
  · have hp' : (T.con.find? fun q => q.1 == x).map (·.2) = some p := hp
    obtain ⟨q, hq, rfl⟩ := Option.map_eq_some_iff.mp hp'
    have e1 : q.1 = x := by have := List.find?_some hq; simpa using this
    obtain ⟨u, v, h1, h2, h3⟩ := FA.con q (List.mem_of_find?_eq_some hq)
    exact ⟨u, v, by show mg (Str.ofString (T.rn x)) = _; rw [← e1]; exact h1, h2, h3⟩
  · have hc' : c ∈ T.exs := by
      have hc : T.exs.contains c = true := hc
      simpa using hc
    obtain ⟨h1, h2, h3, h4, h5⟩ := FA.exs c hc'
    exact ⟨_, h1, h2, h3, h4, h5⟩
/-- the text's def f does what g tells, at most n calls deep -/
def Keep (T : Tbl) (n : Nat) (f : String) (g : List D → M D) : Prop := ∀ {P : Program} {w : World} {K : PySem.W.Frag} {mg : Str → Option Value} {base : Heap}, Facts T K mg → GoodAt T.info (xr mg) P w K mg base (2 * n) f g
theorem Keep.up {T : Tbl} {n m : Nat} {f : String} {g : List D → M D} (h : Keep T n f g) (l : n ≤ m) : Keep T m f g := fun FA => by
  obtain ⟨a, fd, ps, F, h1, h2, h3⟩ := h FA
  exact ⟨a, fd, ps, F.up (by omega), h1, h2, h3⟩
section
variable {R R' : Gd} (h : ∀ f g, R f g → R' f g)
include h
mutual
theorem E.good_imp : ∀ e : E, e.good R → e.good R'
  | .tup es, q => Es.good_imp es q
  | .lst es, q => Es.good_imp es q
  | .nref es, q => Es.good_imp es q
  | .bin _ a b, q => ⟨E.good_imp a q.1, E.good_imp b q.2⟩
  | .neg a, q => E.good_imp a q
  | .not a, q => E.good_imp a q
  | .cmp _ a b, q => ⟨E.good_imp a q.1, E.good_imp b q.2⟩
  | .chn _ _ a b d, q => ⟨E.good_imp a q.1, E.good_imp b q.2.1, E.good_imp d q.2.2⟩
  | .and a b, q => ⟨E.good_imp a q.1, E.good_imp b q.2⟩
  | .or a b, q => ⟨E.good_imp a q.1, E.good_imp b q.2⟩
  | .ife t a b, q => ⟨E.good_imp t q.1, E.good_imp a q.2.1, E.good_imp b q.2.2⟩
  | .ix a i, q => ⟨E.good_imp a q.1, E.good_imp i q.2⟩
  | .cut a lo hi, q => ⟨E.good_imp a q.1, Oe.good_imp lo q.2.1, Oe.good_imp hi q.2.2⟩
  | .rev a, q => E.good_imp a q
  | .lrg a b, q => ⟨E.good_imp a q.1, E.good_imp b q.2⟩
  | .call f g es, q => ⟨h f g q.1, Es.good_imp es q.2⟩
  | .blt _ es, q => Es.good_imp es q
  | .isi a _, q => E.good_imp a q
  | .lc _ g, q => G.good_imp g q
  | .oix _ e, q => E.good_imp e q
  | .oin _ e _, q => E.good_imp e q
  | .var _, _ => trivial
  | .cst _, _ => trivial
  | .glo _ _, _ => trivial
  | .olen _, _ => trivial
theorem Es.good_imp : ∀ e : Es, e.good R → e.good R'
  | .nil, _ => trivial
  | .cons e es, q => ⟨E.good_imp e q.1, Es.good_imp es q.2⟩
theorem Oe.good_imp : ∀ e : Oe, e.good R → e.good R'
  | .no, _ => trivial
  | .yes e, q => E.good_imp e q
theorem It.good_imp : ∀ e : Fb.It, e.good R → e.good R'
  | .seq e, q => E.good_imp e q
  | .rng1 a, q => E.good_imp a q
  | .rng2 a b, q => ⟨E.good_imp a q.1, E.good_imp b q.2⟩
  | .rng3 a b c, q => ⟨E.good_imp a q.1, E.good_imp b q.2.1, E.good_imp c q.2.2⟩
  | .zip a b, q => ⟨E.good_imp a q.1, E.good_imp b q.2⟩
  | .enum a, q => E.good_imp a q
theorem G.good_imp : ∀ e : Fb.G, e.good R → e.good R'
  | .fin e, q => E.good_imp e q
  | .gen _ it _ c g, q => ⟨It.good_imp it q.1, Oe.good_imp c q.2.1, G.good_imp g q.2.2⟩
end
mutual
theorem S.good_imp : ∀ s : Fb.S, s.good R → s.good R'
  | .set _ e, q => E.good_imp h e q
  | .par _ es, q => Es.good_imp h es q
  | .parO _ es _, q => Es.good_imp h es q
  | .own _ e, q => E.good_imp h e q
  | .frz _, _ => trivial
  | .app _ e, q => E.good_imp h e q
  | .oset _ k e, q => ⟨E.good_imp h k q.1, E.good_imp h e q.2⟩
  | .rset o i e, q => ⟨E.good_imp h o q.1, E.good_imp h i q.2.1, E.good_imp h e q.2.2⟩
  | .expr e, q => E.good_imp h e q
  | .ret e, q => E.good_imp h e q
  | .retN, _ => trivial
  | .ifs t a b, q => ⟨E.good_imp h t q.1, Ss.good_imp a q.2.1, Ss.good_imp b q.2.2⟩
  | .for_ it _ b, q => ⟨It.good_imp h it q.1, Ss.good_imp b q.2⟩
  | .while_ t b, q => ⟨E.good_imp h t q.1, Ss.good_imp b q.2⟩
  | .raise _ _, _ => trivial
theorem Ss.good_imp : ∀ s : Fb.Ss, s.good R → s.good R'
  | .nil, _ => trivial
  | .cons s ss, q => ⟨S.good_imp s q.1, Ss.good_imp ss q.2⟩
end
end
/-- a def that is never asked deeper -/
theorem Keep.none {T : Tbl} {e : Ent} {f : String} (hm : e ∈ T.ents) (hf : T.rn f = e.nm) (hb : e.Binds) (fn : Fn) (hc : e.okB T.info fn = true) : Keep T 0 f fun _ => M.bad := fun {P w K mg base} FA => by
  obtain ⟨S, l1, l2, l3, l4, l5, l6⟩ := Ent.scope hc
  obtain ⟨fd, FD⟩ := FA.def_ e hm
  have ad : He.fAd K e.d.at_ = He.ga K (Str.ofString e.nm) := by rw [l6]; rfl
  rw [ad] at FD
  have FD' : FunD K e.d.name e.d.qual e.d.params e.d.body e.d.scope [] (e.d.kws K) (He.ga K (Str.ofString e.nm)) fd := by
    have : e.d.dvs K = [] := by unfold He.DefD.dvs; rw [l4]; rfl
    rw [this] at FD
    exact FD
  exact ⟨_, fd, e.ps, ⟨fun vs H Q E h => by obtain ⟨_, _, _, _, _, q⟩ := h; exact False.elim q, fun A outer s H args us vs Q E _ _ _ _ _ h => by obtain ⟨_, _, _, _, _, q⟩ := h; exact False.elim q⟩, by show mg (Str.ofString (T.rn f)) = _; rw [hf]; exact FA.glo e hm, FD.kp, FD'.bindsN hb⟩
/-- a def by its body -/
theorem Keep.of {T : Tbl} {e : Ent} {f : String} {n : Nat} {fn : Fn} (hm : e ∈ T.ents) (hf : T.rn f = e.nm) (hb : e.Binds) (hc : e.okB T.info fn = true) (hg : fn.body.good (Keep T n)) : Keep T (n + 1) f fn.run := fun {P w K mg base} FA => by
  obtain ⟨S, l1, l2, l3, l4, l5, l6⟩ := Ent.scope hc
  obtain ⟨fd, FD⟩ := FA.def_ e hm
  have ad : He.fAd K e.d.at_ = He.ga K (Str.ofString e.nm) := by rw [l6]; rfl
  rw [ad] at FD
  have FD' : FunD K e.d.name e.d.qual e.d.params e.d.body e.d.scope [] (e.d.kws K) (He.ga K (Str.ofString e.nm)) fd := by
    have : e.d.dvs K = [] := by unfold He.DefD.dvs; rw [l4]; rfl
    rw [this] at FD
    exact FD
  refine ⟨_, fd, e.ps, ?_, by show mg (Str.ofString (T.rn f)) = _; rw [hf]; exact FA.glo e hm, FD.kp, FD'.bindsN hb⟩
  have gd : fn.body.good (GoodAt T.info (xr mg) P w K mg base (2 * n)) := Ss.good_imp (fun _ _ q => q FA) _ hg
  have open_ : ∀ {vs H Q E}, spF K (xr mg) fn.run vs H Q E → ∃ w0 st ds, Wd K st w0 H ∧ Reps K w0 H ds vs ∧ ds.length = fn.ps ∧ fn.ps ≤ fn.ns ∧ outS K (xr mg) w0 H E w0 H (fn.body.ev (startE fn.ns ds) st) { nx := fun _ H' => Q .non H', rt := Q } := fun {vs H Q E} h => by
    obtain ⟨w0, st, ds, hW, r, q⟩ := h
    unfold Fn.run at q
    split at q
    · rename_i hc
      exact ⟨w0, st, ds, hW, r, hc.1, hc.2, outX_body q⟩
    · exact False.elim q
  refine def_g (k := 2 * n + 1) FD S (fun vs H Q E h => ?_) fun cdv A outer s H vs Q E hr hg h => ?_
  · obtain ⟨w0, st, ds, _, r, e1, _⟩ := open_ h
    rw [reps_len r, e1, l1]
  · obtain ⟨w0, st, ds, hW, r, e1, e2, q⟩ := open_ h
    have tk : Takes (cxOf (L2.CX P w) P w K mg base e.N e.d.qual e.d.scope (He.ga K (Str.ofString e.nm)) cdv A outer s H E) (fun cls d _ H => E cls d H) := takes_of rfl rfl rfl rfl
    have at_ : AtS T.info (xr mg) (2 * n) e.N e.d.scope (fun _ => true) w0 H (cxOf (L2.CX P w) P w K mg base e.N e.d.qual e.d.scope (He.ga K (Str.ofString e.nm)) cdv A outer s H E) E :=
      ⟨⟨⟨gok FA, rfl, S.nd, hr, hg, passes_call tk fun _ _ _ _ z => z⟩, rfl, rfl, rfl⟩, tk, passes_of rfl, hW.dom, S.kind, fun c m C H _ e => ⟨C, e, rfl, rfl⟩⟩
    refine ⟨_, sndSs at_ fn.body e.d.body l3 gd, w0, st, startE fn.ns ds, ?_, hW, q⟩
    rw [l2]
    exact env_start (by rw [e1, ← l2]; exact e2) r
end Fb

set_option Elab.async false
set_option linter.all false
set_option maxRecDepth 100000
set_option maxHeartbeats 4000000
/-! from the table to the law -/
namespace Fb
open PySem PySem.Spec PyProof.Rows L2

/-- the def of the law, called by the claim: at every heap behind the text's top -/
theorem call_g {P : Program} {w : World} {K : PySem.W.Frag} {mg mb : Str → Option Value} {k : Nat} {fa a : Addr} {sp : Sp} {s : Shared} {vs : List Value} {ns : List Int} (room : Room k callerA)
    (KX : K.In s.heap) (G : s.heap.Ns mainGlobals mg) (GB : s.heap.Ns builtinsNs mb) (blt : ∀ x : Str, x ≠ "__name__" → mb x = bootBuiltins x) (lim : s.heap.NoLimit) (quiet : s.gens = #[])
    (there : s.heap.get? a = some { cls := .type "list", data := .seq vs.toArray }) (wholes : IntsAre vs ns) (few : ns.length ≤ sizeLine)
    (keeps : ∀ base : Heap, K.In base → base.Ns mainGlobals mg → ∃ (fd : FuncData) (ps : List Str), FnG P w K mg base k fa fd ps sp ∧ Binds K fd ps [])
    (holds : ∀ H : Hp, SqL K H a (ns.map V.int) → sp [.ref a] H (fun v _ => v = .bl true) fun _ _ _ => False) :
    codeAny (model P w) callerA (.call (.ref fa) ⟨[.ref a], []⟩) (fun r s' => r = .ok (.ret (.bool true)) ∧ OldK s.heap s'.heap ∧ s'.os = s.os ∧ AllBare s'.gens) s := by
  have rv : Vals (ns.map V.int) vs := vals_ints wholes
  have lv : vs.length ≤ sizeLine := by rw [wholes.length]; exact few
  -- the script is the module's own object, or the one thing that is tracked
  obtain ⟨H, one, sq, ok, un⟩ : ∃ H : Hp, (∀ b u, H b = some u → b = a ∧ ∃ o xs, u = .frz o (.lst xs)) ∧ SqL K H a (ns.map V.int) ∧ HOk P w H s.heap ∧ (∀ b u, H b = some u → K.lookup b = none) := by
    cases kl : K.lookup a with
    | some o =>
      have oe := (KX a o kl).symm.trans there
      cases oe
      exact ⟨fun _ => none, fun b u z => (nomatch z), .inr ⟨_, _, _, kl, rfl, rfl, rfl, by simpa using lv, by simpa using rv⟩, fun b u z => (nomatch z), fun b u z => (nomatch z)⟩
    | none =>
      refine ⟨upd (fun _ => none) a (.frz { cls := .type "list", data := .seq vs.toArray } (.lst (ns.map V.int))), fun b u z => ?_, .inl (.inr ⟨_, upd_same⟩), fun b u z => ?_, fun b u z => ?_⟩
      all_goals
        by_cases e : b = a
        · subst e
          rw [upd_same] at z
          cases z
          first
            | exact ⟨rfl, _, _, rfl⟩
            | exact ⟨there, by rw [List.length_map]; exact few, vs, _, rv, there⟩
            | exact kl
        · rw [upd_ne e] at z
          cases z
  have stays : ∀ {b : Addr} {o : Obj}, s.heap.get? b = some o → H b = none → (hidT s.heap H).get? b = some o := fun q z => hidT_get q z
  have nsS : ∀ {b : Addr} {m : Str → Option Value}, s.heap.Ns b m → (hidT s.heap H).Ns b m := by
    rintro b m ⟨o, es, ep, q, d, r⟩
    refine ⟨o, es, ep, stays q ?_, d, r⟩
    cases z : H b with
    | none => rfl
    | some u =>
      obtain ⟨rfl, _⟩ := one b u z
      have oe := q.symm.trans there
      cases oe
      cases d
  have KB : K.In (hidT s.heap H) := fun b o q => stays (KX b o q) (by
    cases z : H b with
    | none => rfl
    | some u =>
      have := un b u z
      rw [this] at q
      cases q)
  have env0 : Env0 P w K mg (hidT s.heap H) callerA [] s H :=
    ⟨rfl, ⟨KB, nsS G, ⟨mb, nsS GB, blt⟩, by obtain ⟨mc, h1, h2⟩ := lim; exact ⟨mc, nsS h1, h2⟩⟩, fun b o q => of_hidT q, Nat.le_of_eq (hidT_size _ _), trivial, fun b z => absurd (show b ∈ ([] : List Addr) from z) (by simp), ok, .of_eq quiet⟩
  obtain ⟨fd, ps, F, hb⟩ := keeps _ KB (nsS G)
  have hq := holds H sq
  have hl : ps.length = 1 := (F.len _ _ _ _ hq).symm
  have b := hb s [.ref a] KX (by simp; omega)
  rw [List.append_nil] at b
  refine codeAny_mono (F.run callerA [] s H ⟨[.ref a], []⟩ [.ref a] [.ref a] _ _ room rfl env0 b (.cons rfl .nil) hq) ?_
  intro r s' out
  cases r with
  | error e =>
    obtain ⟨_, _, _, _, _, _, _, _, _, _, _, _, z⟩ := out
    exact z.elim
  | ok fl =>
    cases fl with
    | ret u =>
      obtain ⟨v, H', os, bare, un', ok', r', q⟩ := out
      have q' : v = .bl true := q
      subst q'
      obtain rfl : u = Value.bool true := r'
      refine ⟨rfl, OldK.of_keep fun b o q => ?_, os, bare⟩
      cases z : H b with
      | none => exact un'.keep b o q z (fun y => absurd (show b ∈ ([] : List Addr) from y) (by simp)) (by simp)
      | some u =>
        obtain ⟨_, ob, xs, rfl⟩ := one b u z
        obtain ⟨g1, _⟩ := ok b _ z
        obtain ⟨g2, _⟩ := ok' b _ (un'.frzs b ob _ z)
        rw [q] at g1
        cases g1
        exact g2
    | next => exact False.elim out
    | brk => exact False.elim out
    | cont => exact False.elim out

/-- the law's walk: by the table and the evaluator alone -/
theorem walk_g {l : PySem.W.OpenLaw} {n k : Nat} {q : Program} {loose : List Str} {XP : (Str → Option Value) → Heap → Prop} {d : DefRec} {T : Tbl} {g : List D → M D} (good : Keep T k "law" g) (hf : T.rn "law" = "law") (hd : d.name = Str.ofString "law")
    (hn : l.most = some n) (hn2 : n ≤ sizeLine) (hdf : d.params.defaults = []) (hr : Room (2 * k) callerA)
    (ev : ∀ ns : List Int, ns.length ≤ n → ∃ st, g [.scr ns] [] = .ok (bl true) st) :
    PySem.W.WalkO q loose XP (fun w h => ∃ K : PySem.W.Frag, K.In h ∧ He.SaysX T.fa T.fd [] [] T.ex w h K) l.row.toRowW d [] (fun f vs => PySem.call f vs) := by
  refine Att.attach_call hn hdf fun w s₀ s₁ mg mb fa o pm cd doc a vs ns G Y ho hod hcd hmg hobj hints hlen hg => ?_
  obtain ⟨K, KX, c⟩ := Y
  have FA := facts_of KX G.T.g c
  have g1 : mg (Str.ofString "law") = some (.ref fa) := by rw [← hd]; exact hmg
  have sp1 : ∀ H : Hp, SqL K H a (ns.map V.int) → spF K (xr mg) g [.ref a] H (fun v _ => v = .bl true) fun _ _ _ => False := fun H sq => by
    refine ⟨⟨[], fun _ => False⟩, [], [.scr ns], ⟨List.nodup_nil, rfl, fun _ h => absurd h List.not_mem_nil, fun _ h => False.elim h, fun n o h => (nomatch h)⟩, ⟨⟨a, rfl, ?_⟩, trivial⟩, ?_⟩
    · have : hide (fun _ => False) H = H := by
        funext b
        unfold hide
        simp
      rw [this]
      exact sq
    · obtain ⟨st, e⟩ := ev ns hlen
      rw [e]
      intro w' H' _ _ v r
      cases r
      rfl
  refine call_g (sp := spF K (xr mg) g) hr KX G.T.g G.T.b G.T.builtins G.T.nolimit hg hobj hints (Nat.le_trans hlen hn2) (fun base h1 h2 => ?_) sp1
  obtain ⟨a1, fd1, ps1, F1, m1, kp, b1⟩ := good (P := l.prog) (w := w) (base := base) FA
  have e1 : a1 = fa := by
    have m1 : mg (Str.ofString (T.rn "law")) = some (.ref a1) := m1
    rw [hf, g1] at m1
    exact (Value.ref.inj (Option.some.inj m1)).symm
  subst e1
  exact ⟨fd1, ps1, F1, b1⟩
end Fb

set_option Elab.async false
set_option linter.all false
set_option maxRecDepth 100000
set_option maxHeartbeats 2000000
/-! helpers for the plain laws: no program in sight -/
namespace Fb
open PySem

/-! ### data that can be shown and compared -/
structure Neat (w d : Nat) (p : PyData) : Prop where
  lay : p.canLay0 = true
  dep : p.depth ≤ d
  wgt : p.weight ≤ w
  sh : p.intsShort 13 = true
  sho : p.showable = true
structure Neats (w d : Nat) (ps : List PyData) : Prop where
  lay : PyData.canLayAll0 ps = true
  dep : PyData.depthAll ps ≤ d
  wgt : PyData.weightAll ps ≤ w
  sh : PyData.intsShortAll 13 ps = true
  sho : PyData.showableAll ps = true
theorem Neat.mono {w w' d d' : Nat} {p : PyData} (h : Neat w d p) (hw : w ≤ w') (hd : d ≤ d') : Neat w' d' p := ⟨h.lay, Nat.le_trans h.dep hd, Nat.le_trans h.wgt hw, h.sh, h.sho⟩
theorem Neats.mono {w w' d d' : Nat} {p : List PyData} (h : Neats w d p) (hw : w ≤ w') (hd : d ≤ d') : Neats w' d' p := ⟨h.lay, Nat.le_trans h.dep hd, Nat.le_trans h.wgt hw, h.sh, h.sho⟩
theorem Neat.none : Neat 0 0 .none := ⟨rfl, Nat.le_refl _, Nat.le_refl _, rfl, rfl⟩
theorem Neat.bool (b : Bool) : Neat 0 0 (.bool b) := ⟨rfl, Nat.le_refl _, Nat.le_refl _, rfl, rfl⟩
theorem Neat.int {i : Int} (h : i.natAbs < 10 ^ 12) : Neat 41 0 (.int i) := by
  have hl : i ≠ 0 → i.natAbs.log2 < 40 := fun h0 => (Nat.log2_lt (by omega)).mpr (Nat.lt_trans h (by decide))
  refine ⟨rfl, Nat.le_refl _, ?_, ?_, ?_⟩
  · show (if i == 0 then 0 else i.natAbs.log2 + 1) ≤ 41
    by_cases h0 : i = 0
    · simp [h0]
    · have := hl h0
      simp [h0]
      omega
  · show decide ((PyData.shown (.int i)).length ≤ 13) = true
    exact decide_eq_true (PyData.shown_int_le h)
  · show decide (i.natAbs.log2 < 1920) = true
    by_cases h0 : i = 0
    · subst h0; decide +kernel
    · have := hl h0
      exact decide_eq_true (by omega)
theorem Neats.nil : Neats 0 0 [] := ⟨rfl, Nat.le_refl _, Nat.le_refl _, rfl, rfl⟩
theorem Neats.cons {w1 w2 d : Nat} {p : PyData} {ps : List PyData} (h : Neat w1 d p) (t : Neats w2 d ps) : Neats (w1 + 1 + w2) d (p :: ps) := by
  refine ⟨?_, ?_, ?_, ?_, ?_⟩
  · simp only [PyData.canLayAll0, h.lay, t.lay, Bool.and_self]
  · simp only [PyData.depthAll]
    exact Nat.max_le.mpr ⟨h.dep, t.dep⟩
  · simp only [PyData.weightAll]
    have := h.wgt
    have := t.wgt
    omega
  · simp only [PyData.intsShortAll, h.sh, t.sh, Bool.and_self]
  · simp only [PyData.showableAll, h.sho, t.sho, Bool.and_self]
theorem Neats.all {w d : Nat} : ∀ {ps : List PyData}, (∀ p ∈ ps, Neat w d p) → Neats ((w + 1) * ps.length) d ps
  | [], _ => Neats.nil.mono (Nat.zero_le _) (Nat.zero_le _)
  | p :: ps, h => (Neats.cons (h p List.mem_cons_self) (Neats.all fun q hq => h q (List.mem_cons_of_mem _ hq))).mono (by rw [List.length_cons, Nat.mul_succ]; omega) (Nat.le_refl _)
theorem Neat.tuple {w d : Nat} {ps : List PyData} (h : Neats w d ps) : Neat w (d + 1) (.tuple ps) := ⟨h.lay, Nat.succ_le_succ h.dep, h.wgt, h.sh, h.sho⟩
theorem Neat.list {w d : Nat} {ps : List PyData} (h : Neats w d ps) : Neat w (d + 1) (.list ps) := ⟨h.lay, Nat.succ_le_succ h.dep, h.wgt, h.sh, h.sho⟩
theorem Neats.ints {ns : List Int} (h : ∀ n ∈ ns, n.natAbs < 10 ^ 12) : Neats (42 * ns.length) 0 (ns.map .int) := by
  have := Neats.all (w := 41) (d := 0) (ps := ns.map .int) fun p hp => by
    obtain ⟨n, hn, rfl⟩ := List.mem_map.mp hp
    exact Neat.int (h n hn)
  rwa [List.length_map] at this
theorem Neat.shaped {w d : Nat} {p : PyData} (h : Neat w d p) (hd : d ≤ 64) : SeqAt.shaped p = true := by
  unfold SeqAt.shaped
  rw [h.lay]
  exact decide_eq_true (Nat.le_trans h.dep hd)
theorem Neat.repr {w d : Nat} {p : PyData} (h : Neat w d p) (hw : w ≤ 1048576) (hd : d ≤ 64) : Bl.run .repr [p] = some (.str p.shown) := by
  have hl : PyData.layable0 p = true := by
    show (PyData.canLay0 p && decide (PyData.depth p ≤ 64) && decide (PyData.weight p ≤ 2 ^ 20)) = true
    rw [h.lay, decide_eq_true (Nat.le_trans h.dep hd), decide_eq_true (Nat.le_trans h.wgt (Nat.le_trans hw (by decide)))]
    rfl
  have hs := PyData.shown_le_of_layable0 hl h.sh
  have hf : fitsLine p.shown.length = true := decide_eq_true (by omega)
  show (if p.showable && !p.hasDict && fitsLine p.shown.length && SeqAt.shaped p then some (PyData.str p.shown) else Option.none) = _
  rw [h.sho, PyData.hasDict_of_canLay p h.lay, hf, h.shaped hd]
  rfl
theorem Neat.eq {w d : Nat} {p : PyData} (h : Neat w d p) (hd : d ≤ 64) : eqP p p = some true := by
  unfold eqP
  split
  · simp
  · simp
  · simp
  · rw [h.shaped hd, SeqAt.eqv_refl p h.lay]
    rfl

theorem intsOf_map : ∀ ns : List Int, intsOf (ns.map .int) = some ns
  | [] => rfl
  | n :: r => by simp [intsOf, intsOf_map r]
theorem boolsOf_map : ∀ ns : List Bool, boolsOf (ns.map .bool) = some ns
  | [] => rfl
  | n :: r => by simp [boolsOf, boolsOf_map r]
theorem datas_map : ∀ ps : List PyData, datas (ps.map D.d) = some ps
  | [] => rfl
  | n :: r => by simp [datas, datas_map r]

/-! ### one step of the evaluator -/
section
variable {st : Sto} {n : Nat} {k i j : Int} {xs ys : List PyData} {x y : PyData} {v : D} {α : Type}
@[simp] theorem runD_d (f : Bl) (p : PyData) : Bl.runD f [.d p] = M.lift ((f.run [p]).map D.d) := by cases f <;> rfl
@[simp] theorem runD_d2 (f : Bl) (p q : PyData) : Bl.runD f [.d p, .d q] = M.lift ((f.run [p, q]).map D.d) := by cases f <;> rfl
@[simp] theorem runD_scr (ns : List Int) : Bl.runD .len [.scr ns] = M.pure (.d (.int ns.length)) := rfl
@[simp] theorem ixD_d (p : PyData) : ixD (.d p) (.int k) = M.lift ((ixP p k).map D.d) := rfl
@[simp] theorem ixD_scr (ns : List Int) : ixD (.scr ns) (.int k) = M.lift ((L2.atI ns k).map fun i => .d (.int i)) := rfl
@[simp] theorem ixP_tup : ixP (.tuple xs) k = L2.atI xs k := rfl
@[simp] theorem ixP_lst : ixP (.list xs) k = L2.atI xs k := rfl
@[simp] theorem add_int : Bo.run .add (.int i) (.int j) = some (.int (i + j)) := rfl
@[simp] theorem sub_int : Bo.run .sub (.int i) (.int j) = some (.int (i - j)) := rfl
theorem mul_int : Bo.run .mul (.int i) (.int j) = if fits64 i || fits64 j then some (.int (i * j)) else none := rfl
theorem fdiv_int : Bo.run .fdiv (.int i) (.int j) = if 0 < j ∧ j < 1073741824 then some (.int (i / j)) else none := rfl
theorem mod_int : Bo.run .mod (.int i) (.int j) = if 0 < j then some (.int (i % j)) else none := rfl
theorem pow_int : Bo.run .pow (.int i) (.int j) = if 0 ≤ j ∧ j ≤ 1000000 ∧ i.natAbs < 2 ^ 64 then some (.int (i ^ j.toNat)) else none := rfl
theorem add_tup : Bo.run .add (.tuple xs) (.tuple ys) = if fitsLine (xs.length + ys.length) then some (.tuple (xs ++ ys)) else none := rfl
theorem add_lst : Bo.run .add (.list xs) (.list ys) = if fitsLine (xs.length + ys.length) then some (.list (xs ++ ys)) else none := rfl
theorem mul_lst : Bo.run .mul (.list xs) (.int k) = if 0 ≤ k ∧ k ≤ 1000 ∧ xs.length ≤ 1000 then some (.list (List.replicate k.toNat xs).flatten) else none := rfl
@[simp] theorem eq_run : Cm.run .eq x y = eqP x y := rfl
@[simp] theorem ne_run : Cm.run .ne x y = (eqP x y).map not := rfl
@[simp] theorem eqP_int : eqP (.int i) (.int j) = some (decide (i = j)) := rfl
@[simp] theorem eqP_str (a b : Str) : eqP (.str a) (.str b) = some (decide (a = b)) := rfl
@[simp] theorem eqP_bool (a b : Bool) : eqP (.bool a) (.bool b) = some (decide (a = b)) := rfl
@[simp] theorem lt_run : Cm.run .lt (.int i) (.int j) = some (decide (i < j)) := rfl
@[simp] theorem le_run : Cm.run .le (.int i) (.int j) = some (decide (i ≤ j)) := rfl
@[simp] theorem gt_run : Cm.run .gt (.int i) (.int j) = some (decide (j < i)) := rfl
@[simp] theorem ge_run : Cm.run .ge (.int i) (.int j) = some (decide (j ≤ i)) := rfl
@[simp] theorem truth_bool (b : Bool) : truth (.bool b) = some b := rfl
@[simp] theorem truth_int : truth (.int i) = some (i != 0) := rfl
@[simp] theorem truth_list : truth (.list xs) = some (!xs.isEmpty) := rfl
@[simp] theorem truth_tuple : truth (.tuple xs) = some (!xs.isEmpty) := rfl
@[simp] theorem truth_none : truth .none = some false := rfl
@[simp] theorem len_tup : Bl.run .len [.tuple xs] = some (.int xs.length) := rfl
@[simp] theorem len_lst : Bl.run .len [.list xs] = some (.int xs.length) := rfl
@[simp] theorem tuple_tup : Bl.run .tuple [.tuple xs] = some (.tuple xs) := rfl
@[simp] theorem tuple_lst : Bl.run .tuple [.list xs] = some (.tuple xs) := rfl
@[simp] theorem list_tup : Bl.run .list [.tuple xs] = some (.list xs) := rfl
@[simp] theorem list_lst : Bl.run .list [.list xs] = some (.list xs) := rfl
@[simp] theorem sum_lst : Bl.run .sum [.list xs] = (intsOf xs).map fun ns => .int ns.sum := rfl
@[simp] theorem sum_tup : Bl.run .sum [.tuple xs] = (intsOf xs).map fun ns => .int ns.sum := rfl
@[simp] theorem all_lst : Bl.run .all [.list xs] = (boolsOf xs).map fun bs => .bool (bs.all id) := rfl
@[simp] theorem any_lst : Bl.run .any [.list xs] = (boolsOf xs).map fun bs => .bool (bs.any id) := rfl
@[simp] theorem abs_int : Bl.run .abs [.int i] = some (.int (if i < 0 then -i else i)) := rfl
@[simp] theorem max2_int : Bl.run .max2 [.int i, .int j] = some (.int (if j > i then j else i)) := rfl
@[simp] theorem min2_int : Bl.run .min2 [.int i, .int j] = some (.int (if j < i then j else i)) := rfl
@[simp] theorem seqP_tup : seqP (.tuple xs) = some xs := rfl
@[simp] theorem seqP_lst : seqP (.list xs) = some xs := rfl
end
@[simp] theorem get_v (x : D) : Sl.get (.v x) = some x := rfl
@[simp] theorem datas_nil : datas [] = some [] := rfl
@[simp] theorem datas_cons (p : PyData) (xs : List D) : datas (.d p :: xs) = (datas xs).map (p :: ·) := rfl
theorem bind_nm (i : Nat) (x : D) (env : Env) : (T.nm i).bind x env = if i < env.length then some (env.set i (.v x)) else none := by
  unfold T.bind
  rfl
theorem bind_tp (ts : Ts) (ps : List PyData) (env : Env) : (T.tp ts).bind (.d (.tuple ps)) env = ts.bind (ps.map D.d) env := by
  rw [T.bind]
theorem bind_nil (env : Env) : Ts.nil.bind [] env = some env := by
  rw [Ts.bind]
theorem bind_cons (t : T) (ts : Ts) (x : D) (xs : List D) (env : Env) : (Ts.cons t ts).bind (x :: xs) env = (t.bind x env).bind fun env' => ts.bind xs env' := by
  rw [Ts.bind]

/-! ### statements one behind the other, the rest kept whole -/
def seqM (m : M Fl) (ss : Ss) : M Fl := M.bind m fun r => match r with
  | .nx e => ss.ev e
  | .ret v => M.pure (.ret v)
@[simp high] theorem ev_cons (s : S) (ss : Ss) (env : Env) : (Ss.cons s ss).ev env = seqM (s.ev env) ss := by
  rw [Ss.ev]
  rfl
@[simp high] theorem ev_nil (env : Env) : Ss.nil.ev env = M.pure (.nx env) := by rw [Ss.ev]
@[simp] theorem seqM_nx (e : Env) (ss : Ss) : seqM (M.pure (.nx e)) ss = ss.ev e := rfl
@[simp] theorem seqM_ret (v : D) (ss : Ss) : seqM (M.pure (.ret v)) ss = M.pure (.ret v) := rfl
@[simp] theorem seqM_bind {α : Type} (m : M α) (f : α → M Fl) (ss : Ss) : seqM (M.bind m f) ss = M.bind m fun x => seqM (f x) ss := by
  unfold seqM
  rw [M.bind_bind]
@[simp] theorem seqM_ite (c : Prop) [Decidable c] (a b : M Fl) (ss : Ss) : seqM (if c then a else b) ss = if c then seqM a ss else seqM b ss := by split <;> rfl
/-- what a def hands back -/
def outM (m : M Fl) : M D := M.bind m fun r => match r with
  | .nx _ => M.pure non
  | .ret v => M.pure v
@[simp] theorem outM_nx (e : Env) : outM (M.pure (.nx e)) = M.pure (.d .none) := rfl
@[simp] theorem outM_ret (v : D) : outM (M.pure (.ret v)) = M.pure v := rfl
@[simp] theorem outM_bind {α : Type} (m : M α) (f : α → M Fl) : outM (M.bind m f) = M.bind m fun x => outM (f x) := by
  unfold outM
  rw [M.bind_bind]
@[simp] theorem outM_ite (c : Prop) [Decidable c] (a b : M Fl) : outM (if c then a else b) = if c then outM a else outM b := by split <;> rfl
theorem run_out (f : Fn) (xs : List D) : f.run xs = if xs.length = f.ps ∧ f.ps ≤ f.ns then outM (f.body.ev (startE f.ns xs)) else M.bad := rfl
/-- a test, both ways kept whole -/
def ifM (m : M Bool) (a b : Ss) (env : Env) : M Fl := M.bind m fun k => if k = true then a.ev env else b.ev env
@[simp high] theorem ev_ifs (t : E) (a b : Ss) (env : Env) : (S.ifs t a b).ev env = ifM (t.tst env) a b env := by
  rw [S.ev]
  rfl
theorem ifM_pure (k : Bool) (a b : Ss) (env : Env) : ifM (M.pure k) a b env = if k = true then a.ev env else b.ev env := rfl
@[simp] theorem ifM_true (a b : Ss) (env : Env) : ifM (M.pure true) a b env = a.ev env := rfl
@[simp] theorem ifM_false (a b : Ss) (env : Env) : ifM (M.pure false) a b env = b.ev env := rfl
@[simp] theorem ifM_dec (c : Prop) [Decidable c] (a b : Ss) (env : Env) : ifM (M.pure (decide c)) a b env = if c then a.ev env else b.ev env := by
  unfold ifM
  rw [M.pure_bind]
  by_cases h : c <;> simp [h]
@[simp] theorem ifM_not (c : Bool) (a b : Ss) (env : Env) : ifM (M.pure (!c)) a b env = ifM (M.pure c) b a env := by cases c <;> rfl
@[simp] theorem ifM_bind {α : Type} (m : M α) (f : α → M Bool) (a b : Ss) (env : Env) : ifM (M.bind m f) a b env = M.bind m fun x => ifM (f x) a b env := by
  unfold ifM
  rw [M.bind_bind]
@[simp] theorem ifM_ite (c : Prop) [Decidable c] (x y : M Bool) (a b : Ss) (env : Env) : ifM (if c then x else y) a b env = if c then ifM x a b env else ifM y a b env := by split <;> rfl

/-! ### loops with their bodies kept whole -/
def forB (t : T) (b : Ss) (xs : List D) (env : Env) : M Fl := forL (fun x env => M.bind (M.lift (t.bind x env)) fun env' => b.ev env') xs env
def whiB (t : E) (b : Ss) (n : Nat) (env : Env) : M Fl := whileL (fun env => t.tst env) (fun env => b.ev env) n env
def genB (vs : List Nat) (t : T) (c : Oe) (g : G) (env : Env) (xs : List D) : M (List PyData) := flatM (fun x => M.bind (M.lift (t.bind x (wipeE env vs))) fun env' => M.bind (c.ok env') fun k => if k = true then g.ev env' else M.pure []) xs
@[simp high] theorem ev_for (it : It) (t : T) (b : Ss) (env : Env) : (S.for_ it t b).ev env = M.bind (it.ev env) fun xs => forB t b xs env := by
  rw [S.ev]
  rfl
@[simp high] theorem ev_while (t : E) (b : Ss) (env : Env) : (S.while_ t b).ev env = whiB t b 100000 env := by
  rw [S.ev]
  rfl
@[simp high] theorem ev_gen (vs : List Nat) (it : It) (t : T) (c : Oe) (g : G) (env : Env) : (G.gen vs it t c g).ev env = M.bind (it.ev env) fun xs => genB vs t c g env xs := by
  rw [G.ev]
  rfl
@[simp high] theorem ev_fin (e : E) (env : Env) : (G.fin e).ev env = M.bind (e.ev env) fun x => need x fun p => M.pure [p] := by rw [G.ev]
@[simp] theorem ev_set (t : T) (e : E) (env : Env) : (S.set t e).ev env = M.bind (e.ev env) fun x => M.bind (M.lift (t.bind x env)) fun env' => M.pure (.nx env') := by
  rw [S.ev]
  try rfl
@[simp] theorem ev_par (is : List Nat) (es : Es) (env : Env) : (S.par is es).ev env = M.bind (es.ev env) fun xs => M.bind (M.lift (setMany is xs env)) fun env' => M.pure (.nx env') := by
  rw [S.ev]
  try rfl
@[simp] theorem ev_parO (is : List Nat) (es : Es) (os : List Bool) (env : Env) : (S.parO is es os).ev env = M.bind (es.ev env) fun xs => M.bind (M.lift (slotsOf os xs)) fun ss => M.bind (M.lift (putMany is ss env)) fun env' => M.pure (.nx env') := by
  rw [S.ev]
  try rfl
@[simp] theorem ev_own (i : Nat) (e : E) (env : Env) : (S.own i e).ev env = M.bind (e.ev env) fun x => need x fun p => match p with
    | .list xs => if i < env.length then M.pure (.nx (env.set i (.own xs))) else M.bad
    | _ => M.bad := by
  rw [S.ev]
  try rfl
@[simp] theorem ev_frz (i : Nat) (env : Env) : (S.frz i).ev env = match env[i]? with
    | some (.own xs) => M.pure (.nx (env.set i (.v (lst xs))))
    | _ => M.bad := by
  rw [S.ev]
  try rfl
@[simp] theorem ev_oset (i : Nat) (k : E) (e : E) (env : Env) : (S.oset i k e).ev env = match env[i]? with
    | some (.own xs) => M.bind (e.ev env) fun x => M.bind (k.ev env) fun y => need x fun p => need y fun q => match q with
      | .int n => (match L2.ixN xs.length n with
        | some j => M.pure (.nx (env.set i (.own (xs.set j p))))
        | none => M.bad)
      | _ => M.bad
    | _ => M.bad := by
  rw [S.ev]
  try rfl
@[simp] theorem ev_app (i : Nat) (e : E) (env : Env) : (S.app i e).ev env = match env[i]? with
    | some (.own xs) => M.bind (e.ev env) fun x => need x fun p => if xs.length < 16777216 then M.pure (.nx (env.set i (.own (xs ++ [p])))) else M.bad
    | _ => M.bad := by
  rw [S.ev]
  try rfl
@[simp] theorem ev_rset (o : E) (i : E) (e : E) (env : Env) : (S.rset o i e).ev env = M.bind (e.ev env) fun x => M.bind (o.ev env) fun y => M.bind (i.ev env) fun z => need z fun k => M.bind (rsetM y k x) fun _ => M.pure (.nx env) := by
  rw [S.ev]
  try rfl
@[simp] theorem ev_expr (e : E) (env : Env) : (S.expr e).ev env = M.bind (e.ev env) fun _ => M.pure (.nx env) := by
  rw [S.ev]
  try rfl
@[simp] theorem ev_ret (e : E) (env : Env) : (S.ret e).ev env = M.bind (e.ev env) fun x => M.pure (.ret x) := by
  rw [S.ev]
  try rfl
@[simp] theorem ev_retN  (env : Env) : (S.retN).ev env = M.pure (.ret non) := by
  rw [S.ev]
  try rfl
@[simp] theorem ev_raise (c : String) (m : String) (env : Env) : (S.raise c m).ev env = fun s => .exc c (.str m) s := by
  rw [S.ev]
  try rfl
theorem forB_nil (t : T) (b : Ss) (env : Env) : forB t b [] env = M.pure (.nx env) := rfl
theorem forB_cons (t : T) (b : Ss) (x : D) (xs : List D) (env : Env) : forB t b (x :: xs) env = M.bind (M.lift (t.bind x env)) fun env' => M.bind (b.ev env') fun r => match r with
    | .nx e => forB t b xs e
    | .ret v => M.pure (.ret v) := by
  unfold forB
  rw [forL, M.bind_bind] <;> rfl
theorem genB_nil (vs : List Nat) (t : T) (c : Oe) (g : G) (env : Env) : genB vs t c g env [] = M.pure [] := rfl
theorem genB_cons (vs : List Nat) (t : T) (c : Oe) (g : G) (env : Env) (x : D) (xs : List D) : genB vs t c g env (x :: xs) =
    M.bind (M.bind (M.lift (t.bind x (wipeE env vs))) fun env' => M.bind (c.ok env') fun k => if k = true then g.ev env' else M.pure []) fun ys => M.bind (genB vs t c g env xs) fun zs => M.pure (ys ++ zs) := by
  unfold genB
  rw [flatM]
/-- a loop of a pure body: what is kept s, the rest of the slots b -/
theorem forB_fold {α σ β : Type} {t : T} {bd : Ss} {enc : α → D} {mk : σ → β → Env} {f : σ → α → σ} : ∀ {L : List α} {xs : List D}, xs = L.map enc →
    (∀ a ∈ L, ∀ s b, ∃ b', M.bind (M.lift (t.bind (enc a) (mk s b))) (fun e => bd.ev e) = M.pure (.nx (mk (f s a) b'))) → ∀ s b, ∃ b', forB t bd xs (mk s b) = M.pure (.nx (mk (L.foldl f s) b'))
  | [], _, e, _, s, b => by subst e; exact ⟨b, rfl⟩
  | a :: L, _, e, h, s, b => by
    subst e
    obtain ⟨b1, h1⟩ := h a List.mem_cons_self s b
    obtain ⟨b2, h2⟩ := forB_fold (L := L) rfl (fun a' ha => h a' (List.mem_cons_of_mem _ ha)) (f s a) b1
    refine ⟨b2, ?_⟩
    rw [List.map_cons, forB_cons, ← M.bind_bind, h1, M.pure_bind]
    exact h2
/-- .. with what is known of the turns so far -/
theorem forB_inv {α σ β : Type} {t : T} {bd : Ss} {enc : α → D} {mk : σ → β → Env} {f : σ → α → σ} (I : σ → Prop) : ∀ {L : List α} {xs : List D}, xs = L.map enc →
    (∀ a ∈ L, ∀ s b, I s → I (f s a) ∧ ∃ b', M.bind (M.lift (t.bind (enc a) (mk s b))) (fun e => bd.ev e) = M.pure (.nx (mk (f s a) b'))) → ∀ s b, I s → I (L.foldl f s) ∧ ∃ b', forB t bd xs (mk s b) = M.pure (.nx (mk (L.foldl f s) b'))
  | [], _, e, _, s, b, i => by subst e; exact ⟨i, b, rfl⟩
  | a :: L, _, e, h, s, b, i => by
    subst e
    obtain ⟨i1, b1, h1⟩ := h a List.mem_cons_self s b i
    obtain ⟨i2, b2, h2⟩ := forB_inv I (L := L) rfl (fun a' ha => h a' (List.mem_cons_of_mem _ ha)) (f s a) b1 i1
    refine ⟨i2, b2, ?_⟩
    rw [List.map_cons, forB_cons, ← M.bind_bind, h1, M.pure_bind]
    exact h2
/-- .. with the turns so far in hand -/
theorem forB_pre {α σ β : Type} {t : T} {bd : Ss} {enc : α → D} {mk : σ → β → Env} {f : σ → α → σ} : ∀ {L : List α} {xs : List D} {s : σ}, xs = L.map enc →
    (∀ pre a post b, L = pre ++ a :: post → ∃ b', M.bind (M.lift (t.bind (enc a) (mk (pre.foldl f s) b))) (fun e => bd.ev e) = M.pure (.nx (mk (f (pre.foldl f s) a) b'))) → ∀ b, ∃ b', forB t bd xs (mk s b) = M.pure (.nx (mk (L.foldl f s) b'))
  | [], _, s, e, _, b => by subst e; exact ⟨b, rfl⟩
  | a :: L, _, s, e, h, b => by
    subst e
    obtain ⟨b1, h1⟩ := h [] a L b rfl
    obtain ⟨b2, h2⟩ := forB_pre (L := L) (s := f s a) rfl (fun pre a' post b e => by
      have := h (a :: pre) a' post b (by rw [e]; rfl)
      simpa using this) b1
    refine ⟨b2, ?_⟩
    rw [List.map_cons, forB_cons, ← M.bind_bind]
    simp only [List.foldl_nil] at h1
    rw [h1, M.pure_bind]
    exact h2
/-- a loop that looks for one: at the first with p it hands back -/
theorem forB_find {α β : Type} {t : T} {bd : Ss} {enc : α → D} {mk : β → Env} {p : α → Bool} {v : α → D} : ∀ {L : List α} {xs : List D}, xs = L.map enc →
    (∀ a ∈ L, ∀ b, (p a = true → M.bind (M.lift (t.bind (enc a) (mk b))) (fun e => bd.ev e) = M.pure (.ret (v a))) ∧ (p a = false → ∃ b', M.bind (M.lift (t.bind (enc a) (mk b))) (fun e => bd.ev e) = M.pure (.nx (mk b')))) →
    ∀ b, ∃ b', forB t bd xs (mk b) = M.pure (match L.find? p with
      | some a => .ret (v a)
      | none => .nx (mk b'))
  | [], _, e, _, b => by subst e; exact ⟨b, rfl⟩
  | a :: L, _, e, h, b => by
    subst e
    rw [List.map_cons, forB_cons, ← M.bind_bind, List.find?_cons]
    cases q : p a with
    | true =>
      rw [(h a List.mem_cons_self b).1 q]
      exact ⟨b, rfl⟩
    | false =>
      obtain ⟨b1, h1⟩ := (h a List.mem_cons_self b).2 q
      rw [h1]
      exact forB_find (L := L) rfl (fun a' ha => h a' (List.mem_cons_of_mem _ ha)) b1
/-- [e for t in xs if c] -/
theorem genB_map {α : Type} {vs : List Nat} {t : T} {c : Oe} {e : E} {enc : α → D} {p : α → Bool} {g : α → PyData} {env : Env} : ∀ {L : List α} {xs : List D}, xs = L.map enc →
    (∀ a ∈ L, ∃ e1, t.bind (enc a) (wipeE env vs) = some e1 ∧ c.ok e1 = M.pure (p a) ∧ (p a = true → e.ev e1 = M.pure (.d (g a)))) → genB vs t c (.fin e) env xs = M.pure ((L.filter p).map g)
  | [], _, e, _ => by subst e; rfl
  | a :: L, _, e, h => by
    subst e
    obtain ⟨e1, h1, h2, h3⟩ := h a List.mem_cons_self
    rw [List.map_cons, genB_cons, genB_map (L := L) rfl fun a' ha => h a' (List.mem_cons_of_mem _ ha), h1]
    simp only [M.lift_some, M.pure_bind, h2]
    cases q : p a with
    | true =>
      simp only [if_true, ev_fin, h3 q, M.pure_bind, need_d]
      simp [q]
    | false => simp [q]
theorem genB_all {α : Type} {vs : List Nat} {t : T} {e : E} {enc : α → D} {g : α → PyData} {env : Env} {L : List α} {xs : List D} (hx : xs = L.map enc) (h : ∀ a ∈ L, ∃ e1, t.bind (enc a) (wipeE env vs) = some e1 ∧ e.ev e1 = M.pure (.d (g a))) : genB vs t .no (.fin e) env xs = M.pure (L.map g) := by
  have := genB_map (p := fun _ => true) (c := .no) hx (vs := vs) (t := t) (e := e) (g := g) (env := env) fun a ha => by
    obtain ⟨e1, h1, h2⟩ := h a ha
    exact ⟨e1, h1, by simp only [Oe.ok], fun _ => h2⟩
  rw [this]
  congr 2
  exact List.filter_eq_self.mpr fun _ _ => rfl
/-- a clause ahead of others -/
theorem genB_flat {α : Type} {vs : List Nat} {t : T} {g : G} {enc : α → D} {f : α → List PyData} {env : Env} : ∀ {L : List α} {xs : List D}, xs = L.map enc →
    (∀ a ∈ L, ∃ e1, t.bind (enc a) (wipeE env vs) = some e1 ∧ g.ev e1 = M.pure (f a)) → genB vs t .no g env xs = M.pure (L.flatMap f)
  | [], _, e, _ => by subst e; rfl
  | a :: L, _, e, h => by
    subst e
    obtain ⟨e1, h1, h2⟩ := h a List.mem_cons_self
    rw [List.map_cons, genB_cons, genB_flat (L := L) rfl fun a' ha => h a' (List.mem_cons_of_mem _ ha), h1]
    simp only [M.lift_some, M.pure_bind, Oe.ok, if_true, h2, List.flatMap_cons]
theorem rangeM_ok {i j : Int} (h1 : -1000000 ≤ i) (h2 : i ≤ 1000000) (h3 : -1000000 ≤ j) (h4 : j ≤ 1000000) : rangeM i j = M.pure (rangeL i (j - i).toNat) := by
  have e1 : rng62 i = true := by
    unfold rng62
    rw [decide_eq_true (by omega), decide_eq_true (by omega)]
    rfl
  have e2 : rng62 j = true := by
    unfold rng62
    rw [decide_eq_true (by omega), decide_eq_true (by omega)]
    rfl
  have e3 : fitsLine (j - i).toNat = true := decide_eq_true (by omega)
  unfold rangeM
  rw [e1, e2, e3]
  rfl
theorem lrgM_ok {i j : Int} (h1 : -1000000 ≤ i) (h2 : i ≤ 1000000) (h3 : -1000000 ≤ j) (h4 : j ≤ 1000000) : lrgM i j = M.pure (.d (.list (rangeP i (j - i).toNat))) := by
  have e1 : rng62 i = true := by
    unfold rng62
    rw [decide_eq_true (by omega), decide_eq_true (by omega)]
    rfl
  have e2 : rng62 j = true := by
    unfold rng62
    rw [decide_eq_true (by omega), decide_eq_true (by omega)]
    rfl
  have e3 : fitsLine (j - i).toNat = true := decide_eq_true (by omega)
  unfold lrgM
  rw [e1, e2, e3]
  rfl
theorem ints_of {Q : Int → Prop} : ∀ {ps : List PyData}, (∀ p ∈ ps, ∃ i, p = .int i ∧ Q i) → ∃ ns : List Int, ps = ns.map .int ∧ ∀ i ∈ ns, Q i
  | [], _ => ⟨[], rfl, fun _ h => absurd h List.not_mem_nil⟩
  | p :: ps, h => by
    obtain ⟨i, rfl, q⟩ := h p List.mem_cons_self
    obtain ⟨ns, rfl, r⟩ := ints_of fun q hq => h q (List.mem_cons_of_mem _ hq)
    refine ⟨i :: ns, rfl, fun j hj => ?_⟩
    rcases List.mem_cons.mp hj with e | e
    · rw [e]; exact q
    · exact r j e
theorem atI_last {α : Type} (xs : List α) (x : α) : L2.atI (xs ++ [x]) (-1) = some x := by
  have e : (-1 + ((xs.length : Int) + 1)).toNat = xs.length := by omega
  simp [L2.atI, L2.ixN]
  rw [if_pos (by omega), e]
  simp
theorem fits_small {n : Nat} (h : n ≤ 1000) : fitsLine n = true := decide_eq_true (by omega)
theorem fits64_of {i : Int} (h0 : -1000000000000 ≤ i) (h1 : i ≤ 1000000000000) : fits64 i = true := by
  unfold fits64
  rw [decide_eq_true (by omega), decide_eq_true (by omega)]
  rfl
theorem all_tt {α : Type} {l : List α} : (l.all fun _ => true) = true := by
  induction l with
  | nil => rfl
  | cons a r ih => simp
theorem all_true {α : Type} {l : List α} : boolsOf (l.map fun _ => PyData.bool true) = some (l.map fun _ => true) := by
  induction l with
  | nil => rfl
  | cons a r ih => simp [boolsOf, ih]

/-! ### runs at a store -/
def Tri {α : Type} (m : M α) (st : Sto) (Q : α → Sto → Prop) : Prop := ∃ a s', m st = .ok a s' ∧ Q a s'
section
variable {α β : Type} {st : Sto}
theorem Tri.pure {a : α} {Q : α → Sto → Prop} (h : Q a st) : Tri (M.pure a) st Q := ⟨a, st, rfl, h⟩
theorem Tri.bind {m : M α} {f : α → M β} {P : α → Sto → Prop} {Q : β → Sto → Prop} (h : Tri m st P) (k : ∀ a s, P a s → Tri (f a) s Q) : Tri (M.bind m f) st Q := by
  obtain ⟨a, s1, h1, h2⟩ := h
  obtain ⟨b, s2, h3, h4⟩ := k a s1 h2
  exact ⟨b, s2, by rw [bind_at h1]; exact h3, h4⟩
theorem Tri.imp {m : M α} {P Q : α → Sto → Prop} (h : Tri m st P) (k : ∀ a s, P a s → Q a s) : Tri m st Q := by
  obtain ⟨a, s1, h1, h2⟩ := h
  exact ⟨a, s1, h1, k a s1 h2⟩
theorem Tri.calm {m : M α} {Q : α → Sto → Prop} (h : Tri m st Q) : Tri (M.calm m) st Q := by
  obtain ⟨a, s1, h1, h2⟩ := h
  refine ⟨a, s1, ?_, h2⟩
  unfold M.calm
  rw [h1]
theorem Tri.of {m : M α} {a : α} {Q : α → Sto → Prop} (h : m = M.pure a) (q : Q a st) : Tri m st Q := by rw [h]; exact .pure q
/-- the rest of a block -/
def Rest (ss : Ss) (Q : Fl → Sto → Prop) (r : Fl) (s : Sto) : Prop := match r with
  | .nx e => Tri (ss.ev e) s Q
  | .ret v => Q (.ret v) s
theorem Tri.seq {m : M Fl} {ss : Ss} {Q : Fl → Sto → Prop} (h : Tri m st (Rest ss Q)) : Tri (seqM m ss) st Q := Tri.bind h fun r s q => by
  cases r with
  | nx e => exact q
  | ret v => exact Tri.pure q
theorem Rest.nx {ss : Ss} {Q : Fl → Sto → Prop} {e : Env} {s : Sto} (h : Tri (ss.ev e) s Q) : Rest ss Q (.nx e) s := h
theorem Rest.ret {ss : Ss} {Q : Fl → Sto → Prop} {v : D} {s : Sto} (h : Q (.ret v) s) : Rest ss Q (.ret v) s := h
/-- what a def's end asks -/
def Ret (Q : D → Sto → Prop) (r : Fl) (s : Sto) : Prop := match r with
  | .nx _ => Q (.d .none) s
  | .ret v => Q v s
theorem Tri.out {m : M Fl} {Q : D → Sto → Prop} (h : Tri m st (Ret Q)) : Tri (outM m) st Q := Tri.bind h fun r s q => by
  cases r with
  | nx e => exact Tri.pure q
  | ret v => exact Tri.pure q
theorem Tri.run {f : Fn} {xs : List D} {Q : D → Sto → Prop} (hl : xs.length = f.ps ∧ f.ps ≤ f.ns) (h : Tri (f.body.ev (startE f.ns xs)) st (Ret Q)) : Tri (f.run xs) st Q := by
  rw [run_out, if_pos hl]
  exact h.out
theorem Tri.cons {s : S} {ss : Ss} {env : Env} {Q : Fl → Sto → Prop} (h : Tri (s.ev env) st (Rest ss Q)) : Tri ((Ss.cons s ss).ev env) st Q := by
  rw [ev_cons]
  exact h.seq
theorem Tri.last {s : S} {env : Env} {Q : Fl → Sto → Prop} (h : Tri (s.ev env) st Q) : Tri ((Ss.cons s .nil).ev env) st Q := by
  rw [ev_cons]
  refine Tri.seq (h.imp fun r s q => ?_)
  cases r with
  | nx e => exact Rest.nx (by rw [ev_nil]; exact .pure q)
  | ret v => exact q
theorem Tri.ifs {t : E} {a b : Ss} {env : Env} {Q : Fl → Sto → Prop} (h : Tri (t.tst env) st fun k s => if k = true then Tri (a.ev env) s Q else Tri (b.ev env) s Q) : Tri ((S.ifs t a b).ev env) st Q := by
  rw [ev_ifs]
  refine Tri.bind h fun k s q => ?_
  cases k with
  | true => rw [if_pos rfl] at q ⊢; exact q
  | false => rw [if_neg Bool.false_ne_true] at q ⊢; exact q
theorem Tri.if_ {k : Bool} {A B : Prop} (ha : k = true → A) (hb : k = false → B) : if k = true then A else B := by
  cases k with
  | true => rw [if_pos rfl]; exact ha rfl
  | false => rw [if_neg Bool.false_ne_true]; exact hb rfl
theorem Tri.hide {m : M α} {Q : α → Sto → Prop} (h : ∀ R : α → Sto → Prop, (∀ a s, Q a s → R a s) → Tri m st R) : Tri m st Q := h Q fun _ _ q => q
theorem Tri.step {s : S} {ss : Ss} {env : Env} {Q : Fl → Sto → Prop} (h : ∀ R : Fl → Sto → Prop, (∀ a s, Rest ss Q a s → R a s) → Tri (s.ev env) st R) : Tri ((Ss.cons s ss).ev env) st Q := Tri.cons (h _ fun _ _ q => q)
theorem Tri.stepL {s : S} {env : Env} {Q : Fl → Sto → Prop} (h : ∀ R : Fl → Sto → Prop, (∀ a s, Q a s → R a s) → Tri (s.ev env) st R) : Tri ((Ss.cons s .nil).ev env) st Q := Tri.last (h _ fun _ _ q => q)
theorem Tri.runH {f : Fn} {xs : List D} {Q : D → Sto → Prop} (hl : xs.length = f.ps ∧ f.ps ≤ f.ns) (h : ∀ R : Fl → Sto → Prop, (∀ r s, Ret Q r s → R r s) → Tri (f.body.ev (startE f.ns xs)) st R) : Tri (f.run xs) st Q := Tri.run hl (h _ fun _ _ q => q)
/-- a loop whose turns keep I -/
theorem Tri.for_ {t : T} {bd : Ss} {I : Env → Sto → Prop} {Q : Fl → Sto → Prop} : ∀ {xs : List D} {env : Env} {st : Sto}, I env st → (∀ x ∈ xs, ∀ env st, I env st → ∃ e1, t.bind x env = some e1 ∧ Tri (bd.ev e1) st fun r s => match r with
    | .nx e => I e s
    | .ret v => Q (.ret v) s) → (∀ env st, I env st → Q (.nx env) st) → Tri (forB t bd xs env) st Q
  | [], env, st, i, _, k => Tri.pure (k env st i)
  | x :: xs, env, st, i, h, k => by
    obtain ⟨e1, h1, h2⟩ := h x List.mem_cons_self env st i
    rw [forB_cons, h1, M.lift_some, M.pure_bind]
    refine h2.bind fun r s q => ?_
    cases r with
    | nx e => exact Tri.for_ q (fun y hy => h y (List.mem_cons_of_mem _ hy)) k
    | ret v => exact Tri.pure q
/-- .. turn by turn -/
theorem Tri.forN {t : T} {bd : Ss} {I : Nat → Env → Sto → Prop} {Q : Fl → Sto → Prop} : ∀ {xs : List D} (n : Nat) {env : Env} {st : Sto}, I n env st → (∀ i (hi : i < xs.length) env st, I (n + i) env st → ∃ e1, t.bind xs[i] env = some e1 ∧ Tri (bd.ev e1) st fun r s => match r with
    | .nx e => I (n + i + 1) e s
    | .ret v => Q (.ret v) s) → (∀ env st, I (n + xs.length) env st → Q (.nx env) st) → Tri (forB t bd xs env) st Q
  | [], n, env, st, i, _, k => Tri.pure (k env st i)
  | x :: xs, n, env, st, i, h, k => by
    obtain ⟨e1, h1, h2⟩ := h 0 (by simp) env st i
    have h1' : t.bind x env = some e1 := h1
    rw [forB_cons, h1', M.lift_some, M.pure_bind]
    refine h2.bind fun r s q => ?_
    cases r with
    | nx e =>
      refine Tri.forN (xs := xs) (n + 1) q (fun j hj env st z => ?_) fun env st z => k env st (by rw [List.length_cons, show n + (xs.length + 1) = n + 1 + xs.length by omega]; exact z)
      have := h (j + 1) (by simpa using hj) env st (by rw [show n + (j + 1) = n + 1 + j by omega]; exact z)
      rw [show n + (j + 1) + 1 = n + 1 + j + 1 by omega] at this
      simpa using this
    | ret v => exact Tri.pure q
/-- [e for t in xs], each item with P -/
theorem Tri.gen {vs : List Nat} {t : T} {e : E} {I : Sto → Prop} {P : PyData → Prop} {env : Env} {Q : List PyData → Sto → Prop} : ∀ {xs : List D} {st : Sto}, I st → (∀ x ∈ xs, ∀ st, I st → ∃ e1, t.bind x (wipeE env vs) = some e1 ∧ Tri (e.ev e1) st fun v s => I s ∧ ∃ p, v = .d p ∧ P p) →
    (∀ ps st, I st → ps.length = xs.length → (∀ p ∈ ps, P p) → Q ps st) → Tri (genB vs t .no (.fin e) env xs) st Q
  | [], st, i, _, k => Tri.pure (k [] st i rfl fun _ h => absurd h List.not_mem_nil)
  | x :: xs, st, i, h, k => by
    obtain ⟨e1, h1, h2⟩ := h x List.mem_cons_self st i
    rw [genB_cons, h1]
    simp only [M.lift_some, M.pure_bind, Oe.ok, if_true, ev_fin, M.bind_bind]
    refine h2.bind fun v s ⟨i1, p, e, hp⟩ => ?_
    subst e
    simp only [need_d, M.pure_bind]
    refine Tri.bind (Tri.gen (Q := fun ps s => I s ∧ ps.length = xs.length ∧ ∀ p ∈ ps, P p) i1 (fun y hy => h y (List.mem_cons_of_mem _ hy)) fun ps s i2 l q => ⟨i2, l, q⟩) fun ps s2 ⟨i2, l, q⟩ => ?_
    refine Tri.pure (k _ _ i2 (by simp [l]) fun p' hp' => ?_)
    rcases List.mem_cons.mp hp' with z | z
    · rw [z]; exact hp
    · exact q p' z
/-- [e for t in range(i, j)] -/
theorem Tri.lcR {vs : List Nat} {t : T} {e : E} {I : Sto → Prop} {P : PyData → Prop} {env : Env} {Q : D → Sto → Prop} {i j : Int} {st : Sto} (h1 : -1000000 ≤ i) (h2 : i ≤ 1000000) (h3 : -1000000 ≤ j) (h4 : j ≤ 1000000) (i0 : I st)
    (h : ∀ x, ∀ st, I st → ∃ e1, t.bind x (wipeE env vs) = some e1 ∧ Tri (e.ev e1) st fun v s => I s ∧ ∃ p, v = .d p ∧ P p)
    (k : ∀ ps st, I st → ps.length = (j - i).toNat → (∀ p ∈ ps, P p) → Q (.d (.list ps)) st) : Tri (M.bind (rangeM i j) fun xs => M.bind (genB vs t .no (.fin e) env xs) fun ps => if fitsLine ps.length = true then M.pure (.d (.list ps)) else M.bad) st Q := by
  rw [rangeM_ok h1 h2 h3 h4, M.pure_bind]
  refine Tri.bind (Tri.gen (Q := fun ps s => I s ∧ ps.length = (j - i).toNat ∧ ∀ p ∈ ps, P p) i0 (fun x _ st q => h x st q) fun ps s a b c => ⟨a, by rw [b]; simp [rangeL], c⟩) fun ps s ⟨a, b, c⟩ => ?_
  have f : fitsLine ps.length = true := decide_eq_true (by omega)
  rw [if_pos f]
  exact Tri.pure (k ps s a b c)
theorem Tri.ix {zs : List D} {n : Nat} {k : Int} {v : D} {Q : D → Sto → Prop} (h : st[n]? = some (.lst zs)) (e : L2.atI zs k = some v) (q : Q v st) : Tri (ixD (.ref n) (.int k)) st Q := by
  refine ⟨v, st, ?_, q⟩
  show (match st[n]? with
    | some (.lst xs) => (match L2.atI xs k with
      | some v => Out.ok v st
      | none => .bad)
    | none => .bad) = _
  rw [h]
  simp only
  rw [e]
theorem Tri.rset {zs : List D} {n m : Nat} {k : Int} {v : D} {Q : Unit → Sto → Prop} (h : st[n]? = some (.lst zs)) (e : L2.ixN zs.length k = some m) (q : Q () (st.set n (.lst (zs.set m v)))) : Tri (rsetM (.ref n) (.int k) v) st Q := by
  refine ⟨(), _, ?_, q⟩
  rw [rset_eq]
  unfold rsetRef
  rw [h]
  simp only
  rw [e]
end
end Fb

set_option Elab.async false
set_option linter.all false
set_option maxRecDepth 100000
set_option maxHeartbeats 1000000
namespace Lw
open PySem Fb
def f_is_whole : Fn := ⟨1, 1, (.cons (.ret (.and (.isi (.var 0) .int) (.not (.isi (.var 0) .bool)))) .nil)⟩
def g_is_whole : List D → M D := f_is_whole.run
def f_is_within : Fn := ⟨3, 3, (.cons (.ret (.and (.call "is_whole" g_is_whole (.cons (.var 0) .nil)) (.chn .le .le (.var 1) (.var 0) (.var 2)))) .nil)⟩
def g_is_within : List D → M D := f_is_within.run
def f_are_within_c1 : Fb.E := (.call "is_within" g_is_within (.cons (.var 3) (.cons (.var 1) (.cons (.var 2) .nil))))
def f_are_within : Fn := ⟨3, 4, (.cons (.ret (.and (.isi (.var 0) .tuple) (.blt .all (.cons (.lc [3] (.gen [3] (.seq (.var 0)) (.nm 3) .no (.fin f_are_within_c1))) .nil)))) .nil)⟩
def g_are_within : List D → M D := f_are_within.run
def f__law_cell_at : Fn := ⟨2, 2, (.cons (.ifs (.cmp .lt (.var 1) (.blt .len (.cons (.var 0) .nil))) (.cons (.ret (.ix (.var 0) (.var 1))) .nil) .nil) (.cons (.ret (.cst (.int 0))) .nil))⟩
def g__law_cell_at : List D → M D := f__law_cell_at.run
def f__law_pen : Fn := ⟨1, 1, (.cons (.ret (.nref (.cons (.blt .max2 (.cons (.cst (.int 0)) (.cons (.bin .sub (.var 0) (.bin .pow (.cst (.int 10)) (.cst (.int 18)))) .nil))) (.cons (.bin .add (.bin .mod (.var 0) (.cst (.int 2147483629))) (.cst (.int 1))) (.cons (.cst (.int 0)) .nil))))) .nil)⟩
def g__law_pen : List D → M D := f__law_pen.run
def f__law_draw : Fn := ⟨2, 4, (.cons (.ifs (.cmp .gt (.ix (.var 0) (.cst (.int 0))) (.cst (.int 0))) (.cons (.set (.nm 3) (.bin .mod (.ix (.var 0) (.cst (.int 0))) (.var 1))) (.cons (.rset (.var 0) (.cst (.int 0)) (.bin .fdiv (.ix (.var 0) (.cst (.int 0))) (.var 1))) (.cons (.ret (.var 3)) .nil))) .nil) (.cons (.rset (.var 0) (.cst (.int 2)) (.bin .add (.ix (.var 0) (.cst (.int 2))) (.cst (.int 1)))) (.cons (.rset (.var 0) (.cst (.int 1)) (.bin .mod (.bin .add (.bin .add (.bin .mul (.ix (.var 0) (.cst (.int 1))) (.cst (.int 48271))) (.bin .mul (.cst (.int 1009)) (.ix (.var 0) (.cst (.int 2))))) (.cst (.int 7))) (.cst (.int 2147483647)))) (.cons (.set (.nm 2) (.bin .mod (.bin .add (.bin .add (.bin .mul (.ix (.var 0) (.cst (.int 1))) (.ix (.var 0) (.cst (.int 1)))) (.bin .mul (.cst (.int 69621)) (.ix (.var 0) (.cst (.int 1))))) (.cst (.int 11))) (.cst (.int 2147483629)))) (.cons (.set (.nm 2) (.bin .mod (.bin .add (.bin .mul (.var 2) (.var 2)) (.bin .mul (.cst (.int 40014)) (.var 2))) (.cst (.int 2147483587)))) (.cons (.ret (.bin .mod (.bin .fdiv (.var 2) (.cst (.int 16))) (.var 1))) .nil))))))⟩
def g__law_draw : List D → M D := f__law_draw.run
def f__law_pick : Fn := ⟨2, 2, (.cons (.ret (.ix (.var 1) (.call "_law_draw" g__law_draw (.cons (.var 0) (.cons (.blt .len (.cons (.var 1) .nil)) .nil))))) .nil)⟩
def g__law_pick : List D → M D := f__law_pick.run
def f__law_state : Fn := ⟨2, 3, (.cons (.set (.nm 2) (.call "_law_cell_at" g__law_cell_at (.cons (.var 0) (.cons (.var 1) .nil)))) (.cons (.ret (.nref (.cons (.blt .max2 (.cons (.cst (.int 0)) (.cons (.bin .sub (.var 2) (.bin .pow (.cst (.int 10)) (.cst (.int 18)))) .nil))) (.cons (.bin .add (.bin .mod (.var 2) (.cst (.int 2147483629))) (.cst (.int 1))) (.cons (.cst (.int 0)) .nil))))) .nil))⟩
def g__law_state : List D → M D := f__law_state.run
def f__law_choice : Fn := ⟨2, 4, (.cons (.ifs (.cmp .gt (.ix (.var 0) (.cst (.int 0))) (.cst (.int 0))) (.cons (.set (.nm 3) (.bin .mod (.ix (.var 0) (.cst (.int 0))) (.var 1))) (.cons (.rset (.var 0) (.cst (.int 0)) (.bin .fdiv (.ix (.var 0) (.cst (.int 0))) (.var 1))) (.cons (.ret (.var 3)) .nil))) .nil) (.cons (.rset (.var 0) (.cst (.int 2)) (.bin .add (.ix (.var 0) (.cst (.int 2))) (.cst (.int 1)))) (.cons (.rset (.var 0) (.cst (.int 1)) (.bin .mod (.bin .add (.bin .add (.bin .mul (.ix (.var 0) (.cst (.int 1))) (.cst (.int 48271))) (.cst (.int 29))) (.ix (.var 0) (.cst (.int 2)))) (.cst (.int 2147483647)))) (.cons (.set (.nm 2) (.bin .mod (.bin .add (.bin .add (.bin .mul (.ix (.var 0) (.cst (.int 1))) (.ix (.var 0) (.cst (.int 1)))) (.bin .mul (.cst (.int 39373)) (.ix (.var 0) (.cst (.int 1))))) (.cst (.int 7))) (.cst (.int 2147483629)))) (.cons (.set (.nm 2) (.bin .mod (.bin .add (.bin .mul (.var 2) (.var 2)) (.bin .mul (.cst (.int 50021)) (.var 2))) (.cst (.int 2147483587)))) (.cons (.ret (.bin .mod (.bin .fdiv (.var 2) (.cst (.int 8))) (.var 1))) .nil))))))⟩
def g__law_choice : List D → M D := f__law_choice.run
def f__law_same : Fn := ⟨2, 2, (.cons (.ret (.cmp .eq (.blt .repr (.cons (.var 0) .nil)) (.blt .repr (.cons (.var 1) .nil)))) .nil)⟩
def g__law_same : List D → M D := f__law_same.run
/-! ### whole numbers -/
def isInt (p : PyData) : Bool := match p with
  | .int _ => true
  | _ => false
theorem r_is_whole (p : PyData) : g_is_whole [.d p] = M.pure (bl (isInt p)) := by
  cases p <;> simp -implicitDefEqProofs [g_is_whole, f_is_whole, run_out, startE, E.ev, E.tst, Es.ev, Oe.prt, Oe.ok, It.ev, bind_nm, bind_tp, bind_nil, bind_cons, Sl.get, datas, setMany, wipeE, Ty.is, asInt, partOf, fdiv_int, mod_int, isInt]
def isIn (lo hi : Int) (p : PyData) : Bool := match p with
  | .int i => decide (lo ≤ i) && decide (i ≤ hi)
  | _ => false
theorem r_is_within (p : PyData) (lo hi : Int) : g_is_within [.d p, .d (.int lo), .d (.int hi)] = M.pure (bl (isIn lo hi p)) := by
  cases p <;> simp -implicitDefEqProofs [g_is_within, f_is_within, run_out, startE, E.ev, E.tst, Es.ev, Oe.prt, Oe.ok, It.ev, bind_nm, bind_tp, bind_nil, bind_cons, Sl.get, datas, setMany, wipeE, Ty.is, asInt, partOf, fdiv_int, mod_int, r_is_whole, isInt, isIn]
  split <;> simp -implicitDefEqProofs [*]
theorem isIn_int {lo hi i : Int} (h0 : lo ≤ i) (h1 : i ≤ hi) : isIn lo hi (.int i) = true := by simp -implicitDefEqProofs [isIn, h0, h1]
theorem isIn_iff {lo hi : Int} {p : PyData} : isIn lo hi p = true ↔ ∃ i, p = .int i ∧ lo ≤ i ∧ i ≤ hi := by
  cases p <;> simp -implicitDefEqProofs [isIn]
def areIn (lo hi : Int) (p : PyData) : Bool := match p with
  | .tuple ps => ps.all (isIn lo hi)
  | _ => false
theorem boolsOf_all {α : Type} {l : List α} {f : α → Bool} : boolsOf (l.map fun a => PyData.bool (f a)) = some (l.map f) := by
  rw [show (l.map fun a => PyData.bool (f a)) = (l.map f).map .bool by simp, boolsOf_map]
theorem r_are_within (ps : List PyData) (lo hi : Int) (hl : fitsLine ps.length = true) : g_are_within [.d (.tuple ps), .d (.int lo), .d (.int hi)] = M.pure (bl (areIn lo hi (.tuple ps))) := by
  simp -implicitDefEqProofs [g_are_within, f_are_within, run_out, startE, E.ev, E.tst, Es.ev, Oe.prt, Oe.ok, It.ev, bind_nm, bind_tp, bind_nil, bind_cons, Sl.get, datas, setMany, wipeE, Ty.is, asInt, partOf, fdiv_int, mod_int]
  rw [genB_all (L := ps) (enc := D.d) (g := fun p => .bool (isIn lo hi p)) rfl fun p hp => ⟨_, rfl, by simp -implicitDefEqProofs [f_are_within_c1, run_out, startE, E.ev, E.tst, Es.ev, Oe.prt, Oe.ok, It.ev, bind_nm, bind_tp, bind_nil, bind_cons, Sl.get, datas, setMany, wipeE, Ty.is, asInt, partOf, fdiv_int, mod_int, r_is_within]⟩]
  simp -implicitDefEqProofs [hl, boolsOf_all, areIn]
/-! ### draws by a pen -/
section
variable {α : Type} {st : Sto} {n : Nat} {zs : List D} {k : Int} {v : D} {Q : α → Sto → Prop}
theorem Tri.bix {f : D → M α} (h : st[n]? = some (.lst zs)) (e : L2.atI zs k = some v) (q : Tri (f v) st Q) : Tri (M.bind (ixD (.ref n) (.int k)) f) st Q :=
  Tri.bind (P := fun a s => a = v ∧ s = st) (Tri.ix h e ⟨rfl, rfl⟩) fun a s ⟨h1, h2⟩ => by rw [h1, h2]; exact q
theorem Tri.brset {m : Nat} {f : Unit → M α} (h : st[n]? = some (.lst zs)) (e : L2.ixN zs.length k = some m) (q : Tri (f ()) (st.set n (.lst (zs.set m v))) Q) : Tri (M.bind (rsetM (.ref n) (.int k) v) f) st Q :=
  Tri.bind (P := fun a s => s = st.set n (.lst (zs.set m v))) (Tri.rset h e rfl) fun a s h2 => by rw [h2]; exact q
end
def Pn (r : Nat) (st : Sto) : Prop := ∃ a b c : Int, st[r]? = some (.lst [.d (.int a), .d (.int b), .d (.int c)])
def IntIn (lo hi : Int) (v : D) : Prop := ∃ i : Int, v = .d (.int i) ∧ lo ≤ i ∧ i ≤ hi
theorem r_draw (r : Nat) (many : Int) (hm : 0 < many) (hm2 : many < 1073741824) (st : Sto) (h : Pn r st) : Tri (g__law_draw [.ref r, .d (.int many)]) st fun v s => Pn r s ∧ IntIn 0 (many - 1) v := by
  obtain ⟨a, b, c, h⟩ := h
  have hl := (List.getElem?_eq_some_iff.mp h).1
  have fin : ∀ i : Int, IntIn 0 (many - 1) (.d (.int (i % many))) := fun i => ⟨_, rfl, Int.emod_nonneg _ (by omega), by have := Int.emod_lt_of_pos i hm; omega⟩
  have f1 : fits64 48271 = true := by decide
  have f0 : fits64 1009 = true := by decide
  have f2 : fits64 69621 = true := by decide
  have f3 : fits64 40014 = true := by decide
  unfold g__law_draw
  simp -implicitDefEqProofs [f__law_draw, run_out, startE, E.ev, E.tst, Es.ev, Oe.prt, Oe.ok, It.ev, bind_nm, bind_tp, bind_nil, bind_cons, Sl.get, datas, setMany, wipeE, Ty.is, asInt, partOf, fdiv_int, mod_int]
  refine Tri.bix h rfl ?_
  simp
  by_cases ha : 0 < a
  · simp -implicitDefEqProofs [run_out, startE, E.ev, E.tst, Es.ev, Oe.prt, Oe.ok, It.ev, bind_nm, bind_tp, bind_nil, bind_cons, Sl.get, datas, setMany, wipeE, Ty.is, asInt, partOf, fdiv_int, mod_int, ha]
    refine Tri.bix h rfl ?_
    simp -implicitDefEqProofs [hm, mod_int]
    refine Tri.bix h rfl ?_
    simp -implicitDefEqProofs [hm, hm2, fdiv_int]
    refine Tri.brset h rfl ?_
    try simp -implicitDefEqProofs [run_out, startE, E.ev, E.tst, Es.ev, Oe.prt, Oe.ok, It.ev, bind_nm, bind_tp, bind_nil, bind_cons, Sl.get, datas, setMany, wipeE, Ty.is, asInt, partOf, fdiv_int, mod_int]
    exact Tri.pure ⟨⟨_, _, _, List.getElem?_set_self hl⟩, fin _⟩
  · simp -implicitDefEqProofs [run_out, startE, E.ev, E.tst, Es.ev, Oe.prt, Oe.ok, It.ev, bind_nm, bind_tp, bind_nil, bind_cons, Sl.get, datas, setMany, wipeE, Ty.is, asInt, partOf, fdiv_int, mod_int, ha]
    refine Tri.bix h rfl ?_
    try simp -implicitDefEqProofs [run_out, startE, E.ev, E.tst, Es.ev, Oe.prt, Oe.ok, It.ev, bind_nm, bind_tp, bind_nil, bind_cons, Sl.get, datas, setMany, wipeE, Ty.is, asInt, partOf, fdiv_int, mod_int]
    refine Tri.brset h rfl ?_
    try simp -implicitDefEqProofs [run_out, startE, E.ev, E.tst, Es.ev, Oe.prt, Oe.ok, It.ev, bind_nm, bind_tp, bind_nil, bind_cons, Sl.get, datas, setMany, wipeE, Ty.is, asInt, partOf, fdiv_int, mod_int]
    have g1 : (st.set r (.lst [.d (.int a), .d (.int b), .d (.int (c + 1))]))[r]? = some (.lst [.d (.int a), .d (.int b), .d (.int (c + 1))]) := List.getElem?_set_self hl
    refine Tri.bix g1 rfl ?_
    simp -implicitDefEqProofs [run_out, startE, E.ev, E.tst, Es.ev, Oe.prt, Oe.ok, It.ev, bind_nm, bind_tp, bind_nil, bind_cons, Sl.get, datas, setMany, wipeE, Ty.is, asInt, partOf, fdiv_int, mod_int, mul_int, f1]
    refine Tri.bix g1 rfl ?_
    simp -implicitDefEqProofs [mul_int, f0, mod_int]
    refine Tri.brset g1 rfl ?_
    try simp -implicitDefEqProofs [run_out, startE, E.ev, E.tst, Es.ev, Oe.prt, Oe.ok, It.ev, bind_nm, bind_tp, bind_nil, bind_cons, Sl.get, datas, setMany, wipeE, Ty.is, asInt, partOf, fdiv_int, mod_int]
    have b0 := Int.emod_nonneg (b * 48271 + 1009 * (c + 1) + 7) (show (2147483647 : Int) ≠ 0 by decide)
    have b1 := Int.emod_lt_of_pos (b * 48271 + 1009 * (c + 1) + 7) (show (0 : Int) < 2147483647 by decide)
    generalize (b * 48271 + 1009 * (c + 1) + 7) % 2147483647 = b' at b0 b1 ⊢
    have g2 : (st.set r (.lst [.d (.int a), .d (.int b'), .d (.int (c + 1))]))[r]? = some (.lst [.d (.int a), .d (.int b'), .d (.int (c + 1))]) := List.getElem?_set_self hl
    have fb : fits64 b' = true := by
      unfold fits64
      rw [decide_eq_true (by omega), decide_eq_true (by omega)]
      rfl
    refine Tri.bix g2 rfl (Tri.bix g2 rfl ?_)
    simp -implicitDefEqProofs [mul_int, fb]
    refine Tri.bix g2 rfl ?_
    simp -implicitDefEqProofs [mul_int, fb, f2, mod_int]
    have m0 := Int.emod_nonneg (b' * b' + 69621 * b' + 11) (show (2147483629 : Int) ≠ 0 by decide)
    have m1 := Int.emod_lt_of_pos (b' * b' + 69621 * b' + 11) (show (0 : Int) < 2147483629 by decide)
    generalize (b' * b' + 69621 * b' + 11) % 2147483629 = m at m0 m1 ⊢
    have fm : fits64 m = true := by
      unfold fits64
      rw [decide_eq_true (by omega), decide_eq_true (by omega)]
      rfl
    simp -implicitDefEqProofs [mul_int, fm, f3, mod_int, fdiv_int, hm]
    exact Tri.pure ⟨⟨_, _, _, g2⟩, fin _⟩
theorem r_cell (ns : List Int) (k : Nat) : ∃ i : Int, g__law_cell_at [.scr ns, .d (.int k)] = M.pure (.d (.int i)) := by
  by_cases h : k < ns.length
  · have e : L2.atI ns (k : Int) = some ns[k] := by simp -implicitDefEqProofs [L2.atI, L2.ixN, h]
    exact ⟨ns[k], by simp -implicitDefEqProofs [g__law_cell_at, f__law_cell_at, run_out, startE, E.ev, E.tst, Es.ev, Oe.prt, Oe.ok, It.ev, bind_nm, bind_tp, bind_nil, bind_cons, Sl.get, datas, setMany, wipeE, Ty.is, asInt, partOf, fdiv_int, mod_int, h, e]⟩
  · exact ⟨0, by simp -implicitDefEqProofs [g__law_cell_at, f__law_cell_at, run_out, startE, E.ev, E.tst, Es.ev, Oe.prt, Oe.ok, It.ev, bind_nm, bind_tp, bind_nil, bind_cons, Sl.get, datas, setMany, wipeE, Ty.is, asInt, partOf, fdiv_int, mod_int, h]⟩
theorem r_pen (i : Int) (st : Sto) : Tri (g__law_pen [.d (.int i)]) st fun v s => v = .ref st.length ∧ Pn st.length s := by
  unfold g__law_pen
  simp -implicitDefEqProofs [f__law_pen, run_out, startE, E.ev, E.tst, Es.ev, Oe.prt, Oe.ok, It.ev, bind_nm, bind_tp, bind_nil, bind_cons, Sl.get, datas, setMany, wipeE, Ty.is, asInt, partOf, fdiv_int, mod_int, pow_int]
  exact ⟨_, _, rfl, rfl, _, _, _, by rw [List.getElem?_append_right (Nat.le_refl _)]; simp; exact ⟨rfl, rfl, rfl⟩⟩
theorem atI_nat {α : Type} {xs : List α} {v : Int} (h0 : 0 ≤ v) (h1 : v < xs.length) : ∃ x, L2.atI xs v = some x ∧ x ∈ xs := by
  have hv : v.toNat < xs.length := by omega
  refine ⟨xs[v.toNat], ?_, List.getElem_mem hv⟩
  unfold L2.atI L2.ixN
  rw [if_pos h0, if_pos h1]
  exact List.getElem?_eq_getElem hv
theorem r_pick (r : Nat) (xs : List PyData) (h0 : 0 < xs.length) (h1 : xs.length < 1073741824) (st : Sto) (h : Pn r st) : Tri (g__law_pick [.ref r, .d (.list xs)]) st fun v s => Pn r s ∧ ∃ p ∈ xs, v = .d p := by
  unfold g__law_pick
  simp -implicitDefEqProofs [f__law_pick, run_out, startE, E.ev, E.tst, Es.ev, Oe.prt, Oe.ok, It.ev, bind_nm, bind_tp, bind_nil, bind_cons, Sl.get, datas, setMany, wipeE, Ty.is, asInt, partOf, fdiv_int, mod_int]
  refine (r_draw r xs.length (by omega) (by omega) st h).bind fun v s ⟨hs, i, e, i0, i1⟩ => ?_
  subst e
  obtain ⟨p, hp, hm⟩ := atI_nat i0 (show i < xs.length by omega)
  simp -implicitDefEqProofs [hp]
  exact Tri.pure ⟨hs, p, hm, rfl⟩
theorem r_pickT (r : Nat) (xs : List PyData) (h0 : 0 < xs.length) (h1 : xs.length < 1073741824) (st : Sto) (h : Pn r st) : Tri (g__law_pick [.ref r, .d (.tuple xs)]) st fun v s => Pn r s ∧ ∃ p ∈ xs, v = .d p := by
  unfold g__law_pick
  simp -implicitDefEqProofs [f__law_pick, run_out, startE, E.ev, E.tst, Es.ev, Oe.prt, Oe.ok, It.ev, bind_nm, bind_tp, bind_nil, bind_cons, Sl.get, datas, setMany, wipeE, Ty.is, asInt, partOf, fdiv_int, mod_int]
  refine (r_draw r xs.length (by omega) (by omega) st h).bind fun v s ⟨hs, i, e, i0, i1⟩ => ?_
  subst e
  obtain ⟨p, hp, hm⟩ := atI_nat i0 (show i < xs.length by omega)
  simp -implicitDefEqProofs [hp]
  exact Tri.pure ⟨hs, p, hm, rfl⟩
theorem r_state (ns : List Int) (k : Nat) (st : Sto) : Tri (g__law_state [.scr ns, .d (.int k)]) st fun v s => v = .ref st.length ∧ Pn st.length s := by
  obtain ⟨i, hi⟩ := r_cell ns k
  unfold g__law_state
  simp -implicitDefEqProofs [f__law_state, run_out, startE, E.ev, E.tst, Es.ev, Oe.prt, Oe.ok, It.ev, bind_nm, bind_tp, bind_nil, bind_cons, Sl.get, datas, setMany, wipeE, Ty.is, asInt, partOf, fdiv_int, mod_int, pow_int, hi, mod_int]
  exact ⟨_, _, rfl, rfl, _, _, _, by rw [List.getElem?_append_right (Nat.le_refl _)]; simp; exact ⟨rfl, rfl, rfl⟩⟩
theorem r_choice (r : Nat) (many : Int) (hm : 0 < many) (hm2 : many < 1073741824) (st : Sto) (h : Pn r st) : Tri (g__law_choice [.ref r, .d (.int many)]) st fun v s => Pn r s ∧ IntIn 0 (many - 1) v := by
  obtain ⟨a, b, c, h⟩ := h
  have hl := (List.getElem?_eq_some_iff.mp h).1
  have fin : ∀ i : Int, IntIn 0 (many - 1) (.d (.int (i % many))) := fun i => ⟨_, rfl, Int.emod_nonneg _ (by omega), by have := Int.emod_lt_of_pos i hm; omega⟩
  have f1 : fits64 48271 = true := by decide
  have f2 : fits64 39373 = true := by decide
  have f3 : fits64 50021 = true := by decide
  unfold g__law_choice
  simp -implicitDefEqProofs [f__law_choice, run_out, startE, E.ev, E.tst, Es.ev, Oe.prt, Oe.ok, It.ev, bind_nm, bind_tp, bind_nil, bind_cons, Sl.get, datas, setMany, wipeE, Ty.is, asInt, partOf, fdiv_int, mod_int]
  refine Tri.bix h rfl ?_
  simp
  by_cases ha : 0 < a
  · simp -implicitDefEqProofs [run_out, startE, E.ev, E.tst, Es.ev, Oe.prt, Oe.ok, It.ev, bind_nm, bind_tp, bind_nil, bind_cons, Sl.get, datas, setMany, wipeE, Ty.is, asInt, partOf, fdiv_int, mod_int, ha]
    refine Tri.bix h rfl ?_
    simp -implicitDefEqProofs [hm, mod_int]
    refine Tri.bix h rfl ?_
    simp -implicitDefEqProofs [hm, hm2, fdiv_int]
    refine Tri.brset h rfl ?_
    try simp -implicitDefEqProofs [run_out, startE, E.ev, E.tst, Es.ev, Oe.prt, Oe.ok, It.ev, bind_nm, bind_tp, bind_nil, bind_cons, Sl.get, datas, setMany, wipeE, Ty.is, asInt, partOf, fdiv_int, mod_int]
    exact Tri.pure ⟨⟨_, _, _, List.getElem?_set_self hl⟩, fin _⟩
  · simp -implicitDefEqProofs [run_out, startE, E.ev, E.tst, Es.ev, Oe.prt, Oe.ok, It.ev, bind_nm, bind_tp, bind_nil, bind_cons, Sl.get, datas, setMany, wipeE, Ty.is, asInt, partOf, fdiv_int, mod_int, ha]
    refine Tri.bix h rfl ?_
    try simp -implicitDefEqProofs [run_out, startE, E.ev, E.tst, Es.ev, Oe.prt, Oe.ok, It.ev, bind_nm, bind_tp, bind_nil, bind_cons, Sl.get, datas, setMany, wipeE, Ty.is, asInt, partOf, fdiv_int, mod_int]
    refine Tri.brset h rfl ?_
    try simp -implicitDefEqProofs [run_out, startE, E.ev, E.tst, Es.ev, Oe.prt, Oe.ok, It.ev, bind_nm, bind_tp, bind_nil, bind_cons, Sl.get, datas, setMany, wipeE, Ty.is, asInt, partOf, fdiv_int, mod_int]
    have g1 : (st.set r (.lst [.d (.int a), .d (.int b), .d (.int (c + 1))]))[r]? = some (.lst [.d (.int a), .d (.int b), .d (.int (c + 1))]) := List.getElem?_set_self hl
    refine Tri.bix g1 rfl ?_
    simp -implicitDefEqProofs [run_out, startE, E.ev, E.tst, Es.ev, Oe.prt, Oe.ok, It.ev, bind_nm, bind_tp, bind_nil, bind_cons, Sl.get, datas, setMany, wipeE, Ty.is, asInt, partOf, fdiv_int, mod_int, mul_int, f1]
    refine Tri.bix g1 rfl ?_
    simp -implicitDefEqProofs [mod_int]
    refine Tri.brset g1 rfl ?_
    try simp -implicitDefEqProofs [run_out, startE, E.ev, E.tst, Es.ev, Oe.prt, Oe.ok, It.ev, bind_nm, bind_tp, bind_nil, bind_cons, Sl.get, datas, setMany, wipeE, Ty.is, asInt, partOf, fdiv_int, mod_int]
    have b0 := Int.emod_nonneg (b * 48271 + 29 + (c + 1)) (show (2147483647 : Int) ≠ 0 by decide)
    have b1 := Int.emod_lt_of_pos (b * 48271 + 29 + (c + 1)) (show (0 : Int) < 2147483647 by decide)
    generalize (b * 48271 + 29 + (c + 1)) % 2147483647 = b' at b0 b1 ⊢
    have g2 : (st.set r (.lst [.d (.int a), .d (.int b'), .d (.int (c + 1))]))[r]? = some (.lst [.d (.int a), .d (.int b'), .d (.int (c + 1))]) := List.getElem?_set_self hl
    have fb : fits64 b' = true := by
      unfold fits64
      rw [decide_eq_true (by omega), decide_eq_true (by omega)]
      rfl
    refine Tri.bix g2 rfl (Tri.bix g2 rfl ?_)
    simp -implicitDefEqProofs [mul_int, fb]
    refine Tri.bix g2 rfl ?_
    simp -implicitDefEqProofs [mul_int, fb, f2, mod_int]
    have m0 := Int.emod_nonneg (b' * b' + 39373 * b' + 7) (show (2147483629 : Int) ≠ 0 by decide)
    have m1 := Int.emod_lt_of_pos (b' * b' + 39373 * b' + 7) (show (0 : Int) < 2147483629 by decide)
    generalize (b' * b' + 39373 * b' + 7) % 2147483629 = m at m0 m1 ⊢
    have fm : fits64 m = true := by
      unfold fits64
      rw [decide_eq_true (by omega), decide_eq_true (by omega)]
      rfl
    simp -implicitDefEqProofs [mul_int, fm, f3, mod_int, fdiv_int, hm]
    exact Tri.pure ⟨⟨_, _, _, g2⟩, fin _⟩
theorem r_same {w d : Nat} {p : PyData} (h : Neat w d p) (hw : w ≤ 1048576) (hd : d ≤ 64) : g__law_same [.d p, .d p] = M.pure (bl true) := by
  simp -implicitDefEqProofs [g__law_same, f__law_same, run_out, startE, E.ev, E.tst, Es.ev, Oe.prt, Oe.ok, It.ev, bind_nm, bind_tp, bind_nil, bind_cons, Sl.get, datas, setMany, wipeE, Ty.is, asInt, partOf, fdiv_int, mod_int, h.repr hw hd]

end Lw

set_option Elab.async false
set_option linter.all false
set_option maxRecDepth 100000
set_option maxHeartbeats 1000000
namespace Lw
open PySem Fb
/-! ### the frame of most laws: for each of the first cells a pen, so many turns with it -/
def penTurn (fR : String) (gR : List D → M D) : Fb.Ss := (.cons (.ifs (.not (.call fR gR (.cons (.var 2) .nil))) (.cons (.ret (.cst (.bool false))) .nil) .nil) .nil)
def penCell (fR : String) (gR : List D → M D) (turns : Int) : Fb.Ss := (.cons (.set (.nm 2) (.call "_law_pen" g__law_pen (.cons (.call "_law_cell_at" g__law_cell_at (.cons (.var 0) (.cons (.var 1) .nil))) .nil))) (.cons (.for_ (.rng1 (.cst (.int turns))) (.nm 3) (penTurn fR gR)) .nil))
def penLaw (fR : String) (gR : List D → M D) (cells turns : Int) : Fn := ⟨1, 4, (.cons (.for_ (.rng1 (.blt .max2 (.cons (.cst (.int 1)) (.cons (.blt .min2 (.cons (.blt .len (.cons (.var 0) .nil)) (.cons (.cst (.int cells)) .nil))) .nil)))) (.nm 1) (penCell fR gR turns)) (.cons (.ret (.cst (.bool true))) .nil))⟩
theorem mem_range {i : Int} {n : Nat} {x : D} (h : x ∈ rangeL i n) : ∃ k : Nat, k < n ∧ x = .d (.int (i + k)) := by
  unfold rangeL at h
  obtain ⟨k, hk, rfl⟩ := List.mem_map.mp h
  exact ⟨k, List.mem_range.mp hk, rfl⟩
theorem pen_law {fR : String} {gR : List D → M D} {cells turns : Int} (c0 : 0 ≤ cells) (c1 : cells ≤ 1000) (t0 : 0 ≤ turns) (t1 : turns ≤ 1000) (h : ∀ r st, Pn r st → Tri (gR [.ref r]) st fun v s => v = bl true ∧ Pn r s) (ns : List Int) : ∃ st, (penLaw fR gR cells turns).run [.scr ns] [] = .ok (bl true) st := by
  have : Tri ((penLaw fR gR cells turns).run [.scr ns]) [] fun v _ => v = bl true := by
    refine Tri.runH ⟨rfl, Nat.le_of_ble_eq_true rfl⟩ fun R0 up0 => ?_
    refine Tri.step fun R up => ?_
    simp -implicitDefEqProofs [run_out, startE, E.ev, E.tst, Es.ev, Oe.prt, Oe.ok, It.ev, bind_nm, bind_tp, bind_nil, bind_cons, Sl.get, datas, setMany, wipeE, Ty.is, asInt, partOf, fdiv_int, mod_int]
    rw [rangeM_ok (by decide) (by decide) (by split <;> split <;> omega) (by split <;> split <;> omega), M.pure_bind]
    refine Tri.for_ (I := fun env s => ∃ a b c, env = [.v (.scr ns), a, b, c]) ⟨_, _, _, rfl⟩ ?_ ?_
    · rintro x hx env st ⟨a, b, c, rfl⟩
      obtain ⟨k, _, rfl⟩ := mem_range hx
      refine ⟨_, by simp -implicitDefEqProofs [run_out, startE, E.ev, E.tst, Es.ev, Oe.prt, Oe.ok, It.ev, bind_nm, bind_tp, bind_nil, bind_cons, Sl.get, datas, setMany, wipeE, Ty.is, asInt, partOf, fdiv_int, mod_int]; rfl, Tri.hide fun R up => ?_⟩
      obtain ⟨i, hi⟩ := r_cell ns k
      unfold penCell
      refine Tri.step fun R2 up2 => ?_
      simp -implicitDefEqProofs [run_out, startE, E.ev, E.tst, Es.ev, Oe.prt, Oe.ok, It.ev, bind_nm, bind_tp, bind_nil, bind_cons, Sl.get, datas, setMany, wipeE, Ty.is, asInt, partOf, fdiv_int, mod_int, hi]
      refine (r_pen i st).bind ?_
      rintro _ s ⟨rfl, hp⟩
      try simp -implicitDefEqProofs [run_out, startE, E.ev, E.tst, Es.ev, Oe.prt, Oe.ok, It.ev, bind_nm, bind_tp, bind_nil, bind_cons, Sl.get, datas, setMany, wipeE, Ty.is, asInt, partOf, fdiv_int, mod_int]
      refine Tri.pure (up2 _ _ (Rest.nx ?_))
      refine Tri.stepL fun R3 up3 => ?_
      try simp -implicitDefEqProofs [run_out, startE, E.ev, E.tst, Es.ev, Oe.prt, Oe.ok, It.ev, bind_nm, bind_tp, bind_nil, bind_cons, Sl.get, datas, setMany, wipeE, Ty.is, asInt, partOf, fdiv_int, mod_int]
      rw [rangeM_ok (by decide) (by decide) (by omega) (by omega), M.pure_bind]
      refine Tri.for_ (I := fun env s => ∃ d, env = [.v (.scr ns), .v (.d (.int k)), .v (.ref st.length), d] ∧ Pn st.length s) ⟨_, rfl, hp⟩ ?_ ?_
      · rintro x hx env s ⟨d, rfl, hp⟩
        refine ⟨_, by simp -implicitDefEqProofs [run_out, startE, E.ev, E.tst, Es.ev, Oe.prt, Oe.ok, It.ev, bind_nm, bind_tp, bind_nil, bind_cons, Sl.get, datas, setMany, wipeE, Ty.is, asInt, partOf, fdiv_int, mod_int]; rfl, Tri.hide fun R up => ?_⟩
        simp -implicitDefEqProofs [penTurn, run_out, startE, E.ev, E.tst, Es.ev, Oe.prt, Oe.ok, It.ev, bind_nm, bind_tp, bind_nil, bind_cons, Sl.get, datas, setMany, wipeE, Ty.is, asInt, partOf, fdiv_int, mod_int]
        refine (h _ s hp).bind ?_
        rintro _ s ⟨rfl, hp⟩
        try simp -implicitDefEqProofs [run_out, startE, E.ev, E.tst, Es.ev, Oe.prt, Oe.ok, It.ev, bind_nm, bind_tp, bind_nil, bind_cons, Sl.get, datas, setMany, wipeE, Ty.is, asInt, partOf, fdiv_int, mod_int]
        exact Tri.pure (up _ _ ⟨_, rfl, hp⟩)
      · rintro env s ⟨d, rfl, hp⟩
        exact up3 _ _ (up _ _ ⟨_, _, _, rfl⟩)
    · rintro env st ⟨a, b, c, rfl⟩
      refine up _ _ (Rest.nx ?_)
      refine Tri.stepL fun R up => ?_
      simp -implicitDefEqProofs [run_out, startE, E.ev, E.tst, Es.ev, Oe.prt, Oe.ok, It.ev, bind_nm, bind_tp, bind_nil, bind_cons, Sl.get, datas, setMany, wipeE, Ty.is, asInt, partOf, fdiv_int, mod_int]
      exact Tri.pure (up _ _ (up0 _ _ rfl))
  obtain ⟨a, s, h1, rfl⟩ := this
  exact ⟨s, h1⟩
/-- what each turn comes to -/
def Rights (g : List D → M D) : Prop := ∀ r st, Pn r st → Tri (g [.ref r]) st fun v s => v = bl true ∧ Pn r s
/-! ### the frame of the other laws: for each of the first cells a pen, so many laps with it, other names behind -/
def lapCell (body : Fb.Ss) (turns : Int) : Fb.Ss := (.cons (.set (.nm 2) (.call "_law_pen" g__law_pen (.cons (.call "_law_cell_at" g__law_cell_at (.cons (.var 0) (.cons (.var 1) .nil))) .nil))) (.cons (.for_ (.rng1 (.cst (.int turns))) (.nm 3) body) .nil))
def lapFor (body : Fb.Ss) (cells turns : Int) : Fb.S := (.for_ (.rng1 (.blt .max2 (.cons (.cst (.int 1)) (.cons (.blt .min2 (.cons (.blt .len (.cons (.var 0) .nil)) (.cons (.cst (.int cells)) .nil))) .nil)))) (.nm 1) (lapCell body turns))
/-- what each lap comes to -/
def Laps (m : Nat) (body : Fb.Ss) : Prop := ∀ (a : Sl) (k j : Int) (r : Nat) (tail : List Sl) (st : Sto), 0 ≤ k → 0 ≤ j → tail.length = m → Pn r st →
  Tri (body.ev (a :: .v (.d (.int k)) :: .v (.ref r) :: .v (.d (.int j)) :: tail)) st fun v s => ∃ tail', tail'.length = m ∧ v = .nx (a :: .v (.d (.int k)) :: .v (.ref r) :: .v (.d (.int j)) :: tail') ∧ Pn r s
theorem b1 (x : D) (a q1 : Sl) (q : List Sl) : (T.nm 1).bind x (a :: q1 :: q) = some (a :: .v x :: q) := by simp -implicitDefEqProofs [bind_nm]
theorem b2 (x : D) (a q1 q2 : Sl) (q : List Sl) : (T.nm 2).bind x (a :: q1 :: q2 :: q) = some (a :: q1 :: .v x :: q) := by simp -implicitDefEqProofs [bind_nm]
theorem b3 (x : D) (a q1 q2 q3 : Sl) (q : List Sl) : (T.nm 3).bind x (a :: q1 :: q2 :: q3 :: q) = some (a :: q1 :: q2 :: .v x :: q) := by simp -implicitDefEqProofs [bind_nm]
theorem lap_for {m : Nat} {body : Fb.Ss} {cells turns : Int} (c0 : 0 ≤ cells) (c1 : cells ≤ 1000) (t0 : 0 ≤ turns) (t1 : turns ≤ 1000) (h : Laps m body) (ns : List Int) {q1 q2 q3 : Sl} {tail : List Sl} (hl : tail.length = m) {st : Sto} {R : Fl → Sto → Prop}
    (up : ∀ q1 q2 q3 tail st, tail.length = m → R (.nx (.v (.scr ns) :: q1 :: q2 :: q3 :: tail)) st) : Tri ((lapFor body cells turns).ev (.v (.scr ns) :: q1 :: q2 :: q3 :: tail)) st R := by
  unfold lapFor
  simp -implicitDefEqProofs only [ev_for, It.ev, E.ev, Es.ev, List.getElem?_cons_zero, Option.bind_some, Sl.get, M.lift_some, M.pure_bind, runD_scr, runD_d2, min2_int, max2_int, Option.map_some, need_d]
  rw [rangeM_ok (by decide) (by decide) (by split <;> split <;> omega) (by split <;> split <;> omega), M.pure_bind]
  refine Tri.for_ (I := fun env s => ∃ a b c tail, tail.length = m ∧ env = .v (.scr ns) :: a :: b :: c :: tail) ⟨_, _, _, _, hl, rfl⟩ ?_ ?_
  · rintro x hx env st ⟨a, b, c, tail, hl, rfl⟩
    obtain ⟨k, _, rfl⟩ := mem_range hx
    refine ⟨_, b1 _ _ _ _, Tri.hide fun R up => ?_⟩
    obtain ⟨i, hi⟩ := r_cell ns k
    unfold lapCell
    refine Tri.step fun R2 up2 => ?_
    simp -implicitDefEqProofs only [ev_set, E.ev, Es.ev, List.getElem?_cons_zero, List.getElem?_cons_succ, Option.bind_some, Sl.get, M.lift_some, M.pure_bind, Int.zero_add, hi]
    refine (r_pen i st).bind ?_
    rintro _ s ⟨rfl, hp⟩
    simp -implicitDefEqProofs only [b2, M.lift_some, M.pure_bind]
    refine Tri.pure (up2 _ _ (Rest.nx ?_))
    refine Tri.stepL fun R3 up3 => ?_
    simp -implicitDefEqProofs only [ev_for, It.ev, E.ev, M.pure_bind, need_d]
    rw [rangeM_ok (by decide) (by decide) (by omega) (by omega), M.pure_bind]
    refine Tri.for_ (I := fun env s => ∃ d tail, tail.length = m ∧ env = .v (.scr ns) :: .v (.d (.int k)) :: .v (.ref st.length) :: d :: tail ∧ Pn st.length s) ⟨_, _, hl, rfl, hp⟩ ?_ ?_
    · rintro x hx env s ⟨d, tail, hl, rfl, hp⟩
      obtain ⟨j, _, rfl⟩ := mem_range hx
      refine ⟨_, b3 _ _ _ _ _ _, ?_⟩
      refine (h _ _ _ _ tail s (by omega) (by omega) hl hp).imp ?_
      rintro v s ⟨tail', hl', rfl, hp'⟩
      exact ⟨_, _, hl', rfl, hp'⟩
    · rintro env s ⟨d, tail, hl, rfl, hp⟩
      exact up3 _ _ (up _ _ ⟨_, _, _, _, hl, rfl⟩)
  · rintro env st ⟨a, b, c, tail, hl, rfl⟩
    exact up _ _ _ _ _ hl
/-- .. and nothing else -/
def lapLaw (m : Nat) (body : Fb.Ss) (cells turns : Int) : Fn := ⟨1, m + 4, (.cons (lapFor body cells turns) (.cons (.ret (.cst (.bool true))) .nil))⟩
theorem lap_law {m : Nat} {body : Fb.Ss} {cells turns : Int} (c0 : 0 ≤ cells) (c1 : cells ≤ 1000) (t0 : 0 ≤ turns) (t1 : turns ≤ 1000) (h : Laps m body) (ns : List Int) : ∃ st, (lapLaw m body cells turns).run [.scr ns] [] = .ok (bl true) st := by
  have : Tri ((lapLaw m body cells turns).run [.scr ns]) [] fun v _ => v = bl true := by
    refine Tri.runH ⟨rfl, by simp -implicitDefEqProofs [lapLaw]⟩ fun R0 up0 => ?_
    have e : startE (lapLaw m body cells turns).ns [.scr ns] = .v (.scr ns) :: .un :: .un :: .un :: List.replicate m .un := by
      show [Sl.v (.scr ns)] ++ List.replicate (m + 4 - 1) .un = _
      rw [show m + 4 - 1 = m + 3 by omega]
      rfl
    rw [e]
    unfold lapLaw
    refine Tri.step fun R up => ?_
    refine lap_for c0 c1 t0 t1 h ns (by simp) fun q1 q2 q3 tail st hl => up _ _ (Rest.nx ?_)
    refine Tri.stepL fun R up => ?_
    try simp -implicitDefEqProofs [run_out, startE, E.ev, E.tst, Es.ev, Oe.prt, Oe.ok, It.ev, bind_nm, bind_tp, bind_nil, bind_cons, Sl.get, datas, setMany, wipeE, Ty.is, asInt, partOf, fdiv_int, mod_int]
    exact Tri.pure (up _ _ (up0 _ _ rfl))
  obtain ⟨a, s, h1, rfl⟩ := this
  exact ⟨s, h1⟩

end Lw

set_option Elab.async false
set_option linter.all false
set_option maxRecDepth 100000
set_option maxHeartbeats 1000000
namespace Lw
open PySem Fb
/-! ### data of whole numbers, names and nothing: alike is the same -/
mutual
def pureD : PyData → Bool
  | .none => true
  | .int _ => true
  | .str _ => false
  | .list xs => pureAll xs
  | .tuple xs => pureAll xs
  | .bool _ => false
  | .dict _ => false
def pureAll : List PyData → Bool
  | [] => true
  | x :: xs => pureD x && pureAll xs
end
mutual
theorem eqv_pure : ∀ (p q : PyData), pureD p = true → pureD q = true → (PyData.eqv p q = true ↔ p = q)
  | .none, q, _, hq => by cases q <;> simp_all [PyData.eqv, pureD]
  | .int i, q, _, hq => by cases q <;> simp_all [PyData.eqv, pureD]
  | .str _, _, hp, _ => by simp -implicitDefEqProofs [pureD] at hp
  | .bool _, _, hp, _ => by simp -implicitDefEqProofs [pureD] at hp
  | .dict _, _, hp, _ => by simp -implicitDefEqProofs [pureD] at hp
  | .list xs, q, hp, hq => by
    cases q with
    | list ys =>
      simp -implicitDefEqProofs only [pureD] at hp hq
      simp -implicitDefEqProofs only [PyData.eqv, eqvs_pure xs ys hp hq, PyData.list.injEq]
    | _ => simp_all [PyData.eqv, pureD]
  | .tuple xs, q, hp, hq => by
    cases q with
    | tuple ys =>
      simp -implicitDefEqProofs only [pureD] at hp hq
      simp -implicitDefEqProofs only [PyData.eqv, eqvs_pure xs ys hp hq, PyData.tuple.injEq]
    | _ => simp_all [PyData.eqv, pureD]
theorem eqvs_pure : ∀ (ps qs : List PyData), pureAll ps = true → pureAll qs = true → (PyData.eqvAll ps qs = true ↔ ps = qs)
  | [], [], _, _ => by simp -implicitDefEqProofs [PyData.eqvAll]
  | [], _ :: _, _, _ => by simp -implicitDefEqProofs [PyData.eqvAll]
  | _ :: _, [], _, _ => by simp -implicitDefEqProofs [PyData.eqvAll]
  | p :: ps, q :: qs, hp, hq => by
    simp -implicitDefEqProofs only [pureAll, Bool.and_eq_true] at hp hq
    simp -implicitDefEqProofs only [PyData.eqvAll, Bool.and_eq_true, eqv_pure p q hp.1 hq.1, eqvs_pure ps qs hp.2 hq.2, List.cons.injEq]
end
mutual
theorem lay_pure : ∀ (p : PyData), pureD p = true → p.canLay0 = true
  | .none, _ => rfl
  | .int _, _ => rfl
  | .str _, hp => by simp -implicitDefEqProofs [pureD] at hp
  | .bool _, hp => by simp -implicitDefEqProofs [pureD] at hp
  | .dict _, hp => by simp -implicitDefEqProofs [pureD] at hp
  | .list xs, hp => by
    simp -implicitDefEqProofs only [pureD] at hp
    simpa [PyData.canLay0] using lays_pure xs hp
  | .tuple xs, hp => by
    simp -implicitDefEqProofs only [pureD] at hp
    simpa [PyData.canLay0] using lays_pure xs hp
theorem lays_pure : ∀ (ps : List PyData), pureAll ps = true → PyData.canLayAll0 ps = true
  | [], _ => by simp -implicitDefEqProofs [PyData.canLayAll0]
  | p :: ps, hp => by
    simp -implicitDefEqProofs only [pureAll, Bool.and_eq_true] at hp
    simp -implicitDefEqProofs only [PyData.canLayAll0, lay_pure p hp.1, lays_pure ps hp.2, Bool.and_self]
end
/-- it can be compared: what it is made of, how deep -/
structure Tidy (d : Nat) (p : PyData) : Prop where
  pu : pureD p = true
  dep : p.depth ≤ d
structure Tidys (d : Nat) (ps : List PyData) : Prop where
  pu : pureAll ps = true
  dep : PyData.depthAll ps ≤ d
theorem Tidy.mono {d d' : Nat} {p : PyData} (h : Tidy d p) (hd : d ≤ d') : Tidy d' p := ⟨h.pu, Nat.le_trans h.dep hd⟩
theorem Tidy.none : Tidy 0 .none := ⟨rfl, Nat.le_refl _⟩
theorem Tidy.int (i : Int) : Tidy 0 (.int i) := ⟨rfl, Nat.le_refl _⟩
theorem Tidys.nil (d : Nat) : Tidys d [] := ⟨rfl, Nat.zero_le _⟩
theorem Tidys.cons {d : Nat} {p : PyData} {ps : List PyData} (h : Tidy d p) (t : Tidys d ps) : Tidys d (p :: ps) :=
  ⟨by simp -implicitDefEqProofs only [pureAll, h.pu, t.pu, Bool.and_self], by simp -implicitDefEqProofs only [PyData.depthAll]; exact Nat.max_le.mpr ⟨h.dep, t.dep⟩⟩
theorem Tidys.all {d : Nat} : ∀ {ps : List PyData}, (∀ p ∈ ps, Tidy d p) → Tidys d ps
  | [], _ => .nil d
  | p :: ps, h => .cons (h p List.mem_cons_self) (Tidys.all fun q hq => h q (List.mem_cons_of_mem _ hq))
theorem Tidy.tuple {d : Nat} {ps : List PyData} (h : Tidys d ps) : Tidy (d + 1) (.tuple ps) := ⟨by simp -implicitDefEqProofs only [pureD, h.pu], Nat.succ_le_succ h.dep⟩
theorem Tidy.list {d : Nat} {ps : List PyData} (h : Tidys d ps) : Tidy (d + 1) (.list ps) := ⟨by simp -implicitDefEqProofs only [pureD, h.pu], Nat.succ_le_succ h.dep⟩
theorem Tidys.ints (l : List Int) : Tidys 0 (l.map .int) := Tidys.all fun p hp => by
  obtain ⟨i, _, rfl⟩ := List.mem_map.mp hp
  exact .int i
theorem Tidy.shaped {d : Nat} {p : PyData} (h : Tidy d p) (hd : d ≤ 64) : SeqAt.shaped p = true := by
  unfold SeqAt.shaped
  rw [lay_pure p h.pu]
  exact decide_eq_true (Nat.le_trans h.dep hd)
theorem eqv_of {d e : Nat} {p q : PyData} (h : Tidy d p) (k : Tidy e q) {c : Bool} (hc : c = true ↔ p = q) : PyData.eqv p q = c := by
  rw [Bool.eq_iff_iff, eqv_pure p q h.pu k.pu]
  exact hc.symm
/-- p == q -/
theorem Tidy.eq {d e : Nat} {p q : PyData} (h : Tidy d p) (k : Tidy e q) (hd : d ≤ 64) (he : e ≤ 64) {c : Bool} (hc : c = true ↔ p = q) : eqP p q = some c := by
  have e1 := h.shaped hd
  have e2 := k.shaped he
  have e3 := eqv_of h k hc
  unfold eqP
  split
  · congr 1
  · exact absurd h.pu (by simp -implicitDefEqProofs [pureD])
  · exact absurd h.pu (by simp -implicitDefEqProofs [pureD])
  · rw [e1, e2, e3]
    rfl
theorem any_eqv {d e : Nat} {p : PyData} {ps : List PyData} (h : Tidy d p) (k : Tidys e ps) {c : Bool} (hc : c = true ↔ p ∈ ps) : (ps.any fun z => PyData.eqv z p) = c := by
  rw [Bool.eq_iff_iff, hc, List.any_eq_true]
  have pu : ∀ q ∈ ps, pureD q = true := by
    have := k.pu
    clear hc k
    induction ps with
    | nil => exact fun _ h => absurd h List.not_mem_nil
    | cons a r ih =>
      simp -implicitDefEqProofs only [pureAll, Bool.and_eq_true] at this
      intro q hq
      rcases List.mem_cons.mp hq with z | z
      · rw [z]; exact this.1
      · exact ih this.2 q z
  constructor
  · rintro ⟨q, hq, e⟩
    rw [eqv_pure q p (pu q hq) h.pu] at e
    rw [← e]; exact hq
  · intro hp
    exact ⟨p, hp, (eqv_pure p p h.pu h.pu).mpr rfl⟩
/-- p in ps -/
theorem Tidy.inT {d e : Nat} {p : PyData} {ps : List PyData} (h : Tidy d p) (k : Tidys e ps) (hd : d ≤ 63) (he : e ≤ 63) {c : Bool} (hc : c = true ↔ p ∈ ps) : Cm.run .in_ p (.tuple ps) = some c := by
  have e1 := h.shaped (by omega)
  have e2 := (Tidy.tuple k).shaped (by omega)
  unfold Cm.run
  simp -implicitDefEqProofs only [e1, e2, any_eqv h k hc, Bool.and_self, if_true]
theorem Tidy.inL {d e : Nat} {p : PyData} {ps : List PyData} (h : Tidy d p) (k : Tidys e ps) (hd : d ≤ 63) (he : e ≤ 63) {c : Bool} (hc : c = true ↔ p ∈ ps) : Cm.run .in_ p (.list ps) = some c := by
  have e1 := h.shaped (by omega)
  have e2 := (Tidy.list k).shaped (by omega)
  unfold Cm.run
  simp -implicitDefEqProofs only [e1, e2, any_eqv h k hc, Bool.and_self, if_true]
theorem Tidy.notinT {d e : Nat} {p : PyData} {ps : List PyData} (h : Tidy d p) (k : Tidys e ps) (hd : d ≤ 63) (he : e ≤ 63) {c : Bool} (hc : c = true ↔ p ∈ ps) : Cm.run .notin p (.tuple ps) = some (!c) := by
  have e1 := h.shaped (by omega)
  have e2 := (Tidy.tuple k).shaped (by omega)
  unfold Cm.run
  simp -implicitDefEqProofs only [e1, e2, any_eqv h k hc, Bool.and_self, if_true]
theorem Tidy.notinL {d e : Nat} {p : PyData} {ps : List PyData} (h : Tidy d p) (k : Tidys e ps) (hd : d ≤ 63) (he : e ≤ 63) {c : Bool} (hc : c = true ↔ p ∈ ps) : Cm.run .notin p (.list ps) = some (!c) := by
  have e1 := h.shaped (by omega)
  have e2 := (Tidy.list k).shaped (by omega)
  unfold Cm.run
  simp -implicitDefEqProofs only [e1, e2, any_eqv h k hc, Bool.and_self, if_true]
/-! ### rows of whole numbers -/
abbrev encI (l : List Int) : PyData := .tuple (l.map .int)
theorem ints_inj : ∀ {a b : List Int}, a.map PyData.int = b.map PyData.int → a = b
  | [], [], _ => rfl
  | [], _ :: _, h => by simp at h
  | _ :: _, [], h => by simp at h
  | a :: as, b :: bs, h => by
    simp -implicitDefEqProofs only [List.map_cons, List.cons.injEq, PyData.int.injEq] at h
    rw [h.1, ints_inj h.2]
theorem int_mem {i : Int} {l : List Int} : PyData.int i ∈ l.map PyData.int ↔ i ∈ l := by simp
theorem eq_ints (a b : List Int) : eqP (encI a) (encI b) = some (decide (a = b)) :=
  Tidy.eq (Tidy.tuple (.ints a)) (Tidy.tuple (.ints b)) (by decide) (by decide) (by
    rw [decide_eq_true_eq, PyData.tuple.injEq]
    exact ⟨fun h => by rw [h], ints_inj⟩)
theorem eq_intsL (a b : List Int) : eqP (.list (a.map .int)) (.list (b.map .int)) = some (decide (a = b)) :=
  Tidy.eq (Tidy.list (.ints a)) (Tidy.list (.ints b)) (by decide) (by decide) (by
    rw [decide_eq_true_eq, PyData.list.injEq]
    exact ⟨fun h => by rw [h], ints_inj⟩)
theorem in_ints (i : Int) (l : List Int) : Cm.run .in_ (.int i) (encI l) = some (decide (i ∈ l)) := Tidy.inT (.int i) (.ints l) (by decide) (by decide) (by simp)
theorem notin_ints (i : Int) (l : List Int) : Cm.run .notin (.int i) (encI l) = some (!decide (i ∈ l)) := Tidy.notinT (.int i) (.ints l) (by decide) (by decide) (by simp)
theorem in_intsL (i : Int) (l : List Int) : Cm.run .in_ (.int i) (.list (l.map .int)) = some (decide (i ∈ l)) := Tidy.inL (.int i) (.ints l) (by decide) (by decide) (by simp)
theorem notin_intsL (i : Int) (l : List Int) : Cm.run .notin (.int i) (.list (l.map .int)) = some (!decide (i ∈ l)) := Tidy.notinL (.int i) (.ints l) (by decide) (by decide) (by simp)
theorem zipL_ints : ∀ xs ys : List Int, zipL (xs.map .int) (ys.map .int) = (xs.zip ys).map fun p => D.d (.tuple [.int p.1, .int p.2])
  | [], ys => by cases ys <;> rfl
  | x :: xs, [] => rfl
  | x :: xs, y :: ys => by simp -implicitDefEqProofs [zipL, zipL_ints xs ys]
theorem zipL_maps {α β : Type} {f : α → PyData} {g : β → PyData} : ∀ (xs : List α) (ys : List β), zipL (xs.map f) (ys.map g) = (xs.zip ys).map fun p => D.d (.tuple [f p.1, g p.2])
  | [], ys => by cases ys <;> rfl
  | x :: xs, [] => rfl
  | x :: xs, y :: ys => by simp -implicitDefEqProofs [zipL, zipL_maps xs ys]
theorem enumL_eq : ∀ (ps : List PyData) (k : Nat), enumL k ps = (List.range ps.length).map fun i => D.d (.tuple [.int ((k + i : Nat) : Int), ps.getD i .none])
  | [], _ => rfl
  | p :: ps, k => by
    rw [enumL, enumL_eq ps (k + 1), List.length_cons, List.range_succ_eq_map, List.map_cons, List.map_map]
    simp -implicitDefEqProofs [Function.comp_def, Nat.add_assoc, Nat.add_comm 1]
theorem enum_ints (l : List Int) : enumL 0 (l.map .int) = (List.range l.length).map fun (i : Nat) => D.d (.tuple [.int (i : Int), .int (l.getD i 0)]) := by
  rw [enumL_eq, List.length_map]
  refine List.map_congr_left fun i hi => ?_
  have := List.mem_range.mp hi
  simp -implicitDefEqProofs [List.getD_eq_getElem?_getD, List.getElem?_map, List.getElem?_eq_getElem this]
theorem atI_ints (l : List Int) {i : Int} (h0 : 0 ≤ i) (h1 : i < l.length) : L2.atI (l.map PyData.int) i = some (.int (l.getD i.toNat 0)) := by
  obtain ⟨n, rfl⟩ := Int.eq_ofNat_of_zero_le h0
  have : n < l.length := by omega
  simp -implicitDefEqProofs [L2.atI, L2.ixN, this, List.getD_eq_getElem?_getD]
def absI (i : Int) : Int := if i < 0 then -i else i
theorem absI_abs (i : Int) : absI i = (i.natAbs : Int) := by unfold absI; split <;> omega
theorem flatMap_len {α β : Type} {f : α → List β} {n : Nat} : ∀ {l : List α}, (∀ a ∈ l, (f a).length = n) → (l.flatMap f).length = l.length * n
  | [], _ => by simp
  | a :: l, h => by
    rw [List.flatMap_cons, List.length_append, h a List.mem_cons_self, flatMap_len fun b hb => h b (List.mem_cons_of_mem _ hb), List.length_cons, Nat.succ_mul]
    omega
theorem foldl_app {α β : Type} {f : β → List α} : ∀ (l : List β) (acc : List α), l.foldl (fun a b => a ++ f b) acc = acc ++ l.flatMap f
  | [], acc => by simp
  | b :: l, acc => by rw [List.foldl_cons, foldl_app l, List.flatMap_cons, List.append_assoc]
theorem atI_of {P : Int → Prop} (l : List Int) {i : Int} (h0 : 0 ≤ i) (h1 : i < l.length) (h : ∀ x ∈ l, P x) : ∃ x, L2.atI (l.map PyData.int) i = some (.int x) ∧ P x := by
  obtain ⟨p, hp, hm⟩ := atI_nat (xs := l.map PyData.int) h0 (by simpa using h1)
  obtain ⟨x, hx, rfl⟩ := List.mem_map.mp hm
  exact ⟨x, hp, h x hx⟩

end Lw

set_option Elab.async false
set_option linter.all false
set_option maxRecDepth 100000
set_option maxHeartbeats 1000000
namespace Lw
open PySem Fb
def f_rises_c1 : Fb.E := (.cmp .lt (.var 1) (.var 2))
def f_rises : Fn := ⟨1, 3, (.cons (.ret (.blt .all (.cons (.lc [1, 2] (.gen [1, 2] (.zip (.var 0) (.cut (.var 0) (.yes (.cst (.int 1))) .no)) (.tp (.cons (.nm 1) (.cons (.nm 2) .nil))) .no (.fin f_rises_c1))) .nil))) .nil)⟩
def g_rises : List D → M D := f_rises.run
def f_is_way_c1 : Fb.E := (.call "is_within" g_is_within (.cons (.var 1) (.cons (.var 2) (.cons (.var 3) .nil))))
def f_is_way : Fn := ⟨1, 4, (.cons (.ifs (.or (.not (.isi (.var 0) .tuple)) (.cmp .ne (.blt .len (.cons (.var 0) .nil)) (.blt .len (.cons (.glo "BOUNDS" (.tuple [.tuple [.int 0, .int 255], .tuple [.int (-50), .int 100], .tuple [.int (-50), .int 100], .tuple [.int (-7), .int 7], .tuple [.int (-7), .int 7]])) .nil)))) (.cons (.ret (.cst (.bool false))) .nil) .nil) (.cons (.ret (.blt .all (.cons (.lc [1, 2, 3] (.gen [1, 2, 3] (.zip (.var 0) (.glo "BOUNDS" (.tuple [.tuple [.int 0, .int 255], .tuple [.int (-50), .int 100], .tuple [.int (-50), .int 100], .tuple [.int (-7), .int 7], .tuple [.int (-7), .int 7]]))) (.tp (.cons (.nm 1) (.cons (.tp (.cons (.nm 2) (.cons (.nm 3) .nil))) .nil))) .no (.fin f_is_way_c1))) .nil))) .nil))⟩
def g_is_way : List D → M D := f_is_way.run
def f_is_house_c1 : Fb.E := (.call "is_way" g_is_way (.cons (.var 2) .nil))
def f_is_house_c2 : Fb.E := (.ix (.var 1) (.cst (.int 0)))
def f_is_house : Fn := ⟨1, 3, (.cons (.ifs (.or (.not (.isi (.var 0) .tuple)) (.or (.not (.chn .le .le (.cst (.int 1)) (.blt .len (.cons (.var 0) .nil)) (.glo "MOST_WAYS" (.int 3)))) (.not (.blt .all (.cons (.lc [2] (.gen [2] (.seq (.var 0)) (.nm 2) .no (.fin f_is_house_c1))) .nil))))) (.cons (.ret (.cst (.bool false))) .nil) .nil) (.cons (.ret (.call "rises" g_rises (.cons (.lc [1] (.gen [1] (.seq (.var 0)) (.nm 1) .no (.fin f_is_house_c2))) .nil))) .nil))⟩
def g_is_house : List D → M D := f_is_house.run
def f_need_house : Fn := ⟨1, 1, (.cons (.ifs (.not (.call "is_house" g_is_house (.cons (.var 0) .nil))) (.cons (.raise "NoHouse" "no house") .nil) .nil) .nil)⟩
def g_need_house : List D → M D := f_need_house.run
def f_need_tick : Fn := ⟨1, 1, (.cons (.ifs (.not (.call "is_within" g_is_within (.cons (.var 0) (.cons (.cst (.int 0)) (.cons (.glo "MOST_TICK" (.int 300)) .nil))))) (.cons (.raise "NoTick" "no tick") .nil) .nil) .nil)⟩
def g_need_tick : List D → M D := f_need_tick.run
def f_place_by_l1 : Fb.Ss := (.cons (.ifs (.cmp .le (.var 3) (.var 1)) (.cons (.set (.nm 2) (.tup (.cons (.bin .add (.var 4) (.bin .mul (.bin .sub (.var 1) (.var 3)) (.var 6))) (.cons (.bin .add (.var 5) (.bin .mul (.bin .sub (.var 1) (.var 3)) (.var 7))) .nil)))) .nil) .nil) .nil)
def f_place_by : Fn := ⟨2, 8, (.cons (.set (.nm 2) (.cst (.none))) (.cons (.for_ (.seq (.var 0)) (.tp (.cons (.nm 3) (.cons (.nm 4) (.cons (.nm 5) (.cons (.nm 6) (.cons (.nm 7) .nil)))))) f_place_by_l1) (.cons (.ret (.var 2)) .nil)))⟩
def g_place_by : List D → M D := f_place_by.run
def f_place_at : Fn := ⟨2, 2, (.cons (.expr (.call "need_house" g_need_house (.cons (.var 0) .nil))) (.cons (.expr (.call "need_tick" g_need_tick (.cons (.var 1) .nil))) (.cons (.ret (.call "place_by" g_place_by (.cons (.var 0) (.cons (.var 1) .nil)))) .nil)))⟩
def g_place_at : List D → M D := f_place_at.run
def f__law_way : Fn := ⟨2, 4, (.cons (.par [2, 3] (.cons (.bin .sub (.call "_law_draw" g__law_draw (.cons (.var 0) (.cons (.cst (.int 22)) .nil))) (.cst (.int 6))) (.cons (.bin .sub (.call "_law_draw" g__law_draw (.cons (.var 0) (.cons (.cst (.int 22)) .nil))) (.cst (.int 6))) .nil))) (.cons (.ret (.tup (.cons (.var 1) (.cons (.var 2) (.cons (.var 3) (.cons (.ix (.lst (.cons (.cst (.int 0)) (.cons (.cst (.int 1)) (.cons (.neg (.cst (.int 1))) (.cons (.cst (.int 2)) (.cons (.cst (.int 0)) .nil)))))) (.call "_law_draw" g__law_draw (.cons (.var 0) (.cons (.cst (.int 5)) .nil)))) (.cons (.ix (.lst (.cons (.cst (.int 0)) (.cons (.neg (.cst (.int 1))) (.cons (.cst (.int 1)) (.cons (.neg (.cst (.int 3))) (.cons (.cst (.int 0)) .nil)))))) (.call "_law_draw" g__law_draw (.cons (.var 0) (.cons (.cst (.int 5)) .nil)))) .nil))))))) .nil))⟩
def g__law_way : List D → M D := f__law_way.run
def f__law_house_l1 : Fb.Ss := (.cons (.app 3 (.call "_law_way" g__law_way (.cons (.var 0) (.cons (.var 2) .nil)))) (.cons (.set (.nm 2) (.bin .add (.bin .add (.var 2) (.cst (.int 1))) (.call "_law_draw" g__law_draw (.cons (.var 0) (.cons (.cst (.int 8)) .nil))))) .nil))
def f__law_house : Fn := ⟨1, 4, (.cons (.parO [2, 3] (.cons (.ix (.lst (.cons (.cst (.int 0)) (.cons (.cst (.int 0)) (.cons (.cst (.int 0)) (.cons (.cst (.int 4)) .nil))))) (.call "_law_draw" g__law_draw (.cons (.var 0) (.cons (.cst (.int 4)) .nil)))) (.cons (.lst .nil) .nil)) [false, true]) (.cons (.for_ (.rng1 (.bin .add (.cst (.int 1)) (.call "_law_pick" g__law_pick (.cons (.var 0) (.cons (.lst (.cons (.cst (.int 0)) (.cons (.cst (.int 0)) (.cons (.cst (.int 1)) (.cons (.cst (.int 2)) .nil))))) .nil))))) (.nm 1) f__law_house_l1) (.cons (.frz 3) (.cons (.ret (.blt .tuple (.cons (.var 3) .nil))) .nil))))⟩
def g__law_house : List D → M D := f__law_house.run
def f__law_edge_way : Fn := ⟨1, 4, (.cons (.set (.nm 1) (.ix (.lst (.cons (.neg (.cst (.int 50))) (.cons (.cst (.int 100)) (.cons (.cst (.int 0)) (.cons (.bin .sub (.call "_law_draw" g__law_draw (.cons (.var 0) (.cons (.cst (.int 151)) .nil))) (.cst (.int 50))) .nil))))) (.call "_law_draw" g__law_draw (.cons (.var 0) (.cons (.cst (.int 4)) .nil))))) (.cons (.set (.nm 2) (.ix (.lst (.cons (.neg (.cst (.int 50))) (.cons (.cst (.int 100)) (.cons (.cst (.int 7)) (.cons (.bin .sub (.call "_law_draw" g__law_draw (.cons (.var 0) (.cons (.cst (.int 151)) .nil))) (.cst (.int 50))) .nil))))) (.call "_law_draw" g__law_draw (.cons (.var 0) (.cons (.cst (.int 4)) .nil))))) (.cons (.set (.nm 3) (.ix (.lst (.cons (.cst (.int 0)) (.cons (.cst (.int 255)) (.cons (.cst (.int 15)) (.cons (.cst (.int 16)) (.cons (.call "_law_draw" g__law_draw (.cons (.var 0) (.cons (.cst (.int 256)) .nil))) .nil)))))) (.call "_law_draw" g__law_draw (.cons (.var 0) (.cons (.cst (.int 5)) .nil))))) (.cons (.ret (.tup (.cons (.var 3) (.cons (.var 1) (.cons (.var 2) (.cons (.ix (.lst (.cons (.neg (.cst (.int 7))) (.cons (.cst (.int 7)) (.cons (.cst (.int 0)) (.cons (.bin .sub (.call "_law_draw" g__law_draw (.cons (.var 0) (.cons (.cst (.int 15)) .nil))) (.cst (.int 7))) .nil))))) (.call "_law_draw" g__law_draw (.cons (.var 0) (.cons (.cst (.int 4)) .nil)))) (.cons (.bin .sub (.call "_law_draw" g__law_draw (.cons (.var 0) (.cons (.cst (.int 15)) .nil))) (.cst (.int 7))) .nil))))))) .nil))))⟩
def g__law_edge_way : List D → M D := f__law_edge_way.run
/-! ### rows that rise -/
def risesB (ns : List Int) : Bool := (ns.zip ns.tail).all fun p => decide (p.1 < p.2)
theorem tail_cut {α : Type} (l : List α) : (l.drop (min 1 l.length)).take (l.length - min 1 l.length) = l.tail := by
  cases l with
  | nil => rfl
  | cons a r => simp
theorem r_rises {ns : List Int} (h : ns.length ≤ 1000) : g_rises [.d (.list (ns.map .int))] = M.pure (bl (risesB ns)) := by
  have e : ((ns.map PyData.int).drop (min 1 ns.length)).take (ns.length - min 1 ns.length) = ns.tail.map .int := by
    have := tail_cut (ns.map PyData.int)
    rw [List.length_map] at this
    rw [this, List.map_tail]
  simp -implicitDefEqProofs [g_rises, f_rises, run_out, startE, E.ev, E.tst, Es.ev, Oe.prt, Oe.ok, It.ev, bind_nm, bind_tp, bind_nil, bind_cons, Sl.get, datas, setMany, wipeE, Ty.is, asInt, partOf, fdiv_int, mod_int, cutP, HT.sIx, e, zipL_ints]
  rw [genB_all (L := ns.zip ns.tail) (enc := fun p => D.d (.tuple [.int p.1, .int p.2])) (g := fun p => .bool (decide (p.1 < p.2))) (by rw [← List.map_tail, zipL_ints]) fun p hp => ⟨_, rfl, by simp -implicitDefEqProofs [f_rises_c1, run_out, startE, E.ev, E.tst, Es.ev, Oe.prt, Oe.ok, It.ev, bind_nm, bind_tp, bind_nil, bind_cons, Sl.get, datas, setMany, wipeE, Ty.is, asInt, partOf, fdiv_int, mod_int]⟩]
  have f : fitsLine (ns.zip ns.tail).length = true := fits_small (by simp; omega)
  simp -implicitDefEqProofs [boolsOf_all, risesB] at f ⊢
  simp -implicitDefEqProofs [f, boolsOf_all]
theorem r_risesT {ns : List Int} (h : ns.length ≤ 1000) : g_rises [.d (.tuple (ns.map .int))] = M.pure (bl (risesB ns)) := by
  have e : ((ns.map PyData.int).drop (min 1 ns.length)).take (ns.length - min 1 ns.length) = ns.tail.map .int := by
    have := tail_cut (ns.map PyData.int)
    rw [List.length_map] at this
    rw [this, List.map_tail]
  simp -implicitDefEqProofs [g_rises, f_rises, run_out, startE, E.ev, E.tst, Es.ev, Oe.prt, Oe.ok, It.ev, bind_nm, bind_tp, bind_nil, bind_cons, Sl.get, datas, setMany, wipeE, Ty.is, asInt, partOf, fdiv_int, mod_int, cutP, HT.sIx, e, zipL_ints]
  rw [genB_all (L := ns.zip ns.tail) (enc := fun p => D.d (.tuple [.int p.1, .int p.2])) (g := fun p => .bool (decide (p.1 < p.2))) (by rw [← List.map_tail, zipL_ints]) fun p hp => ⟨_, rfl, by simp -implicitDefEqProofs [f_rises_c1, run_out, startE, E.ev, E.tst, Es.ev, Oe.prt, Oe.ok, It.ev, bind_nm, bind_tp, bind_nil, bind_cons, Sl.get, datas, setMany, wipeE, Ty.is, asInt, partOf, fdiv_int, mod_int]⟩]
  have f : fitsLine (ns.zip ns.tail).length = true := fits_small (by simp; omega)
  simp -implicitDefEqProofs [boolsOf_all, risesB] at f ⊢
  simp -implicitDefEqProofs [f, boolsOf_all]
/-! ### ways, houses -/
structure Way where
  b : Int
  x : Int
  y : Int
  p : Int
  q : Int
def Way.enc (w : Way) : PyData := .tuple [.int w.b, .int w.x, .int w.y, .int w.p, .int w.q]
structure Way.Ok (w : Way) : Prop where
  b0 : 0 ≤ w.b
  b1 : w.b ≤ 255
  x0 : -50 ≤ w.x
  x1 : w.x ≤ 100
  y0 : -50 ≤ w.y
  y1 : w.y ≤ 100
  p0 : -7 ≤ w.p
  p1 : w.p ≤ 7
  q0 : -7 ≤ w.q
  q1 : w.q ≤ 7
structure House (hs : List Way) : Prop where
  l0 : 1 ≤ hs.length
  l1 : hs.length ≤ 3
  ok : ∀ w ∈ hs, w.Ok
  up : risesB (hs.map Way.b) = true
def encH (l : List Way) : PyData := .tuple (l.map Way.enc)
theorem Way.neat {w : Way} (h : w.Ok) : Neat 300 1 w.enc := by
  have := h.b0; have := h.b1; have := h.x0; have := h.x1; have := h.y0; have := h.y1; have := h.p0; have := h.p1; have := h.q0; have := h.q1
  exact (Neat.tuple (Neats.ints (ns := [w.b, w.x, w.y, w.p, w.q]) fun i hi => by simp at hi; omega)).mono (by simp) (Nat.le_refl _)
theorem House.neat {hs : List Way} (h : House hs) : Neat 1000 2 (encH hs) := by
  refine (Neat.tuple (Neats.all (w := 300) (d := 1) fun p hp => ?_)).mono ?_ (Nat.le_refl _)
  · obtain ⟨w, hw, rfl⟩ := List.mem_map.mp hp
    exact Way.neat (h.ok w hw)
  · have := h.l1
    rw [List.length_map]
    omega
theorem r_is_way {w : Way} (h : w.Ok) : g_is_way [.d w.enc] = M.pure (bl true) := by
  have := h.b0; have := h.b1; have := h.x0; have := h.x1; have := h.y0; have := h.y1; have := h.p0; have := h.p1; have := h.q0; have := h.q1
  simp -implicitDefEqProofs [g_is_way, f_is_way, run_out, startE, E.ev, E.tst, Es.ev, Oe.prt, Oe.ok, It.ev, bind_nm, bind_tp, bind_nil, bind_cons, Sl.get, datas, setMany, wipeE, Ty.is, asInt, partOf, fdiv_int, mod_int, Way.enc, zipL]
  rw [genB_all (L := [(w.b, (0 : Int), (255 : Int)), (w.x, -50, 100), (w.y, -50, 100), (w.p, -7, 7), (w.q, -7, 7)]) (enc := fun p => D.d (.tuple [.int p.1, .tuple [.int p.2.1, .int p.2.2]])) (g := fun p => .bool (isIn p.2.1 p.2.2 (.int p.1))) (by rfl)
    fun p hp => ⟨_, rfl, by simp -implicitDefEqProofs [f_is_way_c1, run_out, startE, E.ev, E.tst, Es.ev, Oe.prt, Oe.ok, It.ev, bind_nm, bind_tp, bind_nil, bind_cons, Sl.get, datas, setMany, wipeE, Ty.is, asInt, partOf, fdiv_int, mod_int, r_is_within]⟩]
  simp -implicitDefEqProofs [boolsOf, fits_small, isIn, *]
theorem r_is_house {hs : List Way} (h : House hs) : g_is_house [.d (encH hs)] = M.pure (bl true) := by
  have l0 : (1 : Int) ≤ hs.length := by have := h.l0; omega
  have l1 : (hs.length : Int) ≤ 3 := by have := h.l1; omega
  have f1 : fitsLine hs.length = true := fits_small (by have := h.l1; omega)
  simp -implicitDefEqProofs [g_is_house, f_is_house, run_out, startE, E.ev, E.tst, Es.ev, Oe.prt, Oe.ok, It.ev, bind_nm, bind_tp, bind_nil, bind_cons, Sl.get, datas, setMany, wipeE, Ty.is, asInt, partOf, fdiv_int, mod_int, encH, l0, l1]
  rw [genB_all (L := hs) (enc := fun w => D.d w.enc) (g := fun _ => .bool true) (by rfl) fun w hw => ⟨_, rfl, by simp -implicitDefEqProofs [f_is_house_c1, run_out, startE, E.ev, E.tst, Es.ev, Oe.prt, Oe.ok, It.ev, bind_nm, bind_tp, bind_nil, bind_cons, Sl.get, datas, setMany, wipeE, Ty.is, asInt, partOf, fdiv_int, mod_int, r_is_way (h.ok w hw)]⟩]
  simp -implicitDefEqProofs [run_out, startE, E.ev, E.tst, Es.ev, Oe.prt, Oe.ok, It.ev, bind_nm, bind_tp, bind_nil, bind_cons, Sl.get, datas, setMany, wipeE, Ty.is, asInt, partOf, fdiv_int, mod_int, f1, all_true, all_tt]
  rw [genB_all (L := hs) (enc := fun w => D.d w.enc) (g := fun w => .int w.b) (by rfl) fun w hw => ⟨_, rfl, by simp -implicitDefEqProofs [f_is_house_c2, run_out, startE, E.ev, E.tst, Es.ev, Oe.prt, Oe.ok, It.ev, bind_nm, bind_tp, bind_nil, bind_cons, Sl.get, datas, setMany, wipeE, Ty.is, asInt, partOf, fdiv_int, mod_int, Way.enc, L2.atI, L2.ixN]⟩]
  have := r_rises (ns := hs.map Way.b) (by have := h.l1; simp; omega)
  rw [List.map_map] at this
  simp -implicitDefEqProofs [f1]
  exact this.trans (by rw [h.up])
theorem r_need_house {hs : List Way} (h : House hs) : g_need_house [.d (encH hs)] = M.pure (.d .none) := by
  simp -implicitDefEqProofs [g_need_house, f_need_house, run_out, startE, E.ev, E.tst, Es.ev, Oe.prt, Oe.ok, It.ev, bind_nm, bind_tp, bind_nil, bind_cons, Sl.get, datas, setMany, wipeE, Ty.is, asInt, partOf, fdiv_int, mod_int, r_is_house h]
theorem r_need_tick {t : Int} (h0 : 0 ≤ t) (h1 : t ≤ 300) : g_need_tick [.d (.int t)] = M.pure (.d .none) := by
  simp -implicitDefEqProofs [g_need_tick, f_need_tick, run_out, startE, E.ev, E.tst, Es.ev, Oe.prt, Oe.ok, It.ev, bind_nm, bind_tp, bind_nil, bind_cons, Sl.get, datas, setMany, wipeE, Ty.is, asInt, partOf, fdiv_int, mod_int, r_is_within, isIn_int h0 h1]
def spot (t : Int) (w : Way) : PyData := .tuple [.int (w.x + (t - w.b) * w.p), .int (w.y + (t - w.b) * w.q)]
def found (t : Int) (f : PyData) (w : Way) : PyData := if w.b ≤ t then spot t w else f
def place (t : Int) (hs : List Way) : PyData := hs.foldl (found t) .none
theorem r_place_by {hs : List Way} (h : House hs) {t : Int} (h0 : 0 ≤ t) (h1 : t ≤ 300) : g_place_by [.d (encH hs), .d (.int t)] = M.pure (.d (place t hs)) := by
  simp -implicitDefEqProofs [g_place_by, f_place_by, run_out, startE, E.ev, E.tst, Es.ev, Oe.prt, Oe.ok, It.ev, bind_nm, bind_tp, bind_nil, bind_cons, Sl.get, datas, setMany, wipeE, Ty.is, asInt, partOf, fdiv_int, mod_int, encH]
  obtain ⟨b, e⟩ := forB_fold (t := .tp (.cons (.nm 3) (.cons (.nm 4) (.cons (.nm 5) (.cons (.nm 6) (.cons (.nm 7) .nil)))))) (bd := f_place_by_l1) (L := hs) (xs := hs.map fun w => D.d w.enc) (enc := fun w => D.d w.enc)
    (mk := fun f (b : Sl × Sl × Sl × Sl × Sl) => [.v (.d (.tuple (hs.map Way.enc))), .v (.d (.int t)), .v (.d f), b.1, b.2.1, b.2.2.1, b.2.2.2.1, b.2.2.2.2]) (f := found t) rfl
    (fun w hw s b => by
      have ok := h.ok w hw
      have := ok.b0
      have := ok.b1
      have ff : fits64 (t - w.b) = true := fits64_of (by omega) (by omega)
      refine ⟨(.v (.d (.int w.b)), .v (.d (.int w.x)), .v (.d (.int w.y)), .v (.d (.int w.p)), .v (.d (.int w.q))), ?_⟩
      by_cases hb : w.b ≤ t
      · simp -implicitDefEqProofs [f_place_by_l1, run_out, startE, E.ev, E.tst, Es.ev, Oe.prt, Oe.ok, It.ev, bind_nm, bind_tp, bind_nil, bind_cons, Sl.get, datas, setMany, wipeE, Ty.is, asInt, partOf, fdiv_int, mod_int, Way.enc, mul_int, ff, hb, found, spot]
      · simp -implicitDefEqProofs [f_place_by_l1, run_out, startE, E.ev, E.tst, Es.ev, Oe.prt, Oe.ok, It.ev, bind_nm, bind_tp, bind_nil, bind_cons, Sl.get, datas, setMany, wipeE, Ty.is, asInt, partOf, fdiv_int, mod_int, Way.enc, mul_int, ff, hb, found, spot]) .none (.un, .un, .un, .un, .un)
  simp -implicitDefEqProofs only [Function.comp_def] at e ⊢
  rw [e]
  simp -implicitDefEqProofs [run_out, startE, E.ev, E.tst, Es.ev, Oe.prt, Oe.ok, It.ev, bind_nm, bind_tp, bind_nil, bind_cons, Sl.get, datas, setMany, wipeE, Ty.is, asInt, partOf, fdiv_int, mod_int, place]
theorem r_place_at {hs : List Way} (h : House hs) {t : Int} (h0 : 0 ≤ t) (h1 : t ≤ 300) : g_place_at [.d (encH hs), .d (.int t)] = M.pure (.d (place t hs)) := by
  simp -implicitDefEqProofs [g_place_at, f_place_at, run_out, startE, E.ev, E.tst, Es.ev, Oe.prt, Oe.ok, It.ev, bind_nm, bind_tp, bind_nil, bind_cons, Sl.get, datas, setMany, wipeE, Ty.is, asInt, partOf, fdiv_int, mod_int, r_need_house h, r_need_tick h0 h1, r_place_by h h0 h1]
theorem last_place (t : Int) : ∀ (hs : List Way) (f : PyData), hs.foldl (found t) f = ((hs.filter fun w => decide (w.b ≤ t)).getLast?.map (spot t)).getD f
  | [], f => rfl
  | w :: hs, f => by
    rw [List.foldl_cons, last_place t hs, List.filter_cons]
    by_cases h : w.b ≤ t
    · simp -implicitDefEqProofs only [h, decide_true, if_true, found]
      cases hs.filter fun w => decide (w.b ≤ t) with
      | nil => simp
      | cons a r => simp -implicitDefEqProofs [List.getLast?_cons]
    · simp -implicitDefEqProofs [h, found]
theorem place_some {hs : List Way} (h : House hs) {t : Int} (h1 : t ≤ 300) (hb : ∃ w ∈ hs, w.b ≤ t) : ∃ px py : Int, place t hs = .tuple [.int px, .int py] ∧ px.natAbs ≤ 3000 ∧ py.natAbs ≤ 3000 := by
  obtain ⟨v, hv, hv2⟩ := hb
  unfold place
  rw [last_place]
  cases q : (hs.filter fun w => decide (w.b ≤ t)).getLast? with
  | none =>
    have e := List.getLast?_eq_none_iff.mp q
    have : v ∈ hs.filter fun w => decide (w.b ≤ t) := List.mem_filter.mpr ⟨hv, by simpa using hv2⟩
    rw [e] at this
    exact absurd this List.not_mem_nil
  | some w =>
    have hw := List.mem_filter.mp (List.mem_of_getLast? q)
    have ok := h.ok w hw.1
    have hb : w.b ≤ t := by simpa using hw.2
    have := ok.b0; have := ok.x0; have := ok.x1; have := ok.y0; have := ok.y1
    have m : ∀ (a c : Int), 0 ≤ a → a ≤ 300 → -7 ≤ c → c ≤ 7 → (a * c).natAbs ≤ 2100 := fun a c a0 a1 c0 c1 => by
      rw [Int.natAbs_mul]
      exact Nat.le_trans (Nat.mul_le_mul (show a.natAbs ≤ 300 by omega) (show c.natAbs ≤ 7 by omega)) (by decide)
    have m1 := m (t - w.b) w.p (by omega) (by omega) ok.p0 ok.p1
    have m2 := m (t - w.b) w.q (by omega) (by omega) ok.q0 ok.q1
    exact ⟨_, _, rfl, by omega, by omega⟩

end Lw

set_option Elab.async false
set_option linter.all false
set_option maxRecDepth 100000
set_option maxHeartbeats 1000000
namespace Lw
open PySem Fb
theorem risesB_of : ∀ {l : List Int}, l.Pairwise (· < ·) → risesB l = true
  | [], _ => rfl
  | [a], _ => rfl
  | a :: b :: r, h => by
    have h1 := List.pairwise_cons.mp h
    have := risesB_of h1.2
    have hb := h1.1 b List.mem_cons_self
    unfold risesB at this ⊢
    simp at this ⊢
    exact ⟨hb, this⟩
/-- what the law's ways are -/
structure Way.Sm (w : Way) : Prop where
  b0 : 0 ≤ w.b
  b1 : w.b ≤ 28
  x0 : -6 ≤ w.x
  x1 : w.x ≤ 15
  y0 : -6 ≤ w.y
  y1 : w.y ≤ 15
  p0 : -1 ≤ w.p
  p1 : w.p ≤ 2
  q0 : -3 ≤ w.q
  q1 : w.q ≤ 1
theorem Way.Sm.ok {w : Way} (h : w.Sm) : w.Ok := by
  have := h.b0; have := h.b1; have := h.x0; have := h.x1; have := h.y0; have := h.y1; have := h.p0; have := h.p1; have := h.q0; have := h.q1
  constructor <;> omega
theorem r_law_way (r : Nat) (b : Int) (st : Sto) (h0 : Pn r st) (hb : 0 ≤ b) (hb2 : b ≤ 28) : Tri (g__law_way [.ref r, .d (.int b)]) st fun v s => Pn r s ∧ ∃ w : Way, v = .d w.enc ∧ w.Sm ∧ w.b = b := by
  simp -implicitDefEqProofs [g__law_way, f__law_way, run_out, startE, E.ev, E.tst, Es.ev, Oe.prt, Oe.ok, It.ev, bind_nm, bind_tp, bind_nil, bind_cons, Sl.get, datas, setMany, wipeE, Ty.is, asInt, partOf, fdiv_int, mod_int]
  refine (r_draw r 22 (by omega) (by omega) _ h0).bind ?_
  rintro _ s1 ⟨h1, i1, rfl, a1, b1⟩
  try simp -implicitDefEqProofs [run_out, startE, E.ev, E.tst, Es.ev, Oe.prt, Oe.ok, It.ev, bind_nm, bind_tp, bind_nil, bind_cons, Sl.get, datas, setMany, wipeE, Ty.is, asInt, partOf, fdiv_int, mod_int]
  refine (r_draw r 22 (by omega) (by omega) _ h1).bind ?_
  rintro _ s2 ⟨h2, i2, rfl, a2, b2⟩
  try simp -implicitDefEqProofs [run_out, startE, E.ev, E.tst, Es.ev, Oe.prt, Oe.ok, It.ev, bind_nm, bind_tp, bind_nil, bind_cons, Sl.get, datas, setMany, wipeE, Ty.is, asInt, partOf, fdiv_int, mod_int]
  refine (r_draw r 5 (by omega) (by omega) _ h2).bind ?_
  rintro _ s3 ⟨h3, i3, rfl, a3, b3⟩
  try simp -implicitDefEqProofs [run_out, startE, E.ev, E.tst, Es.ev, Oe.prt, Oe.ok, It.ev, bind_nm, bind_tp, bind_nil, bind_cons, Sl.get, datas, setMany, wipeE, Ty.is, asInt, partOf, fdiv_int, mod_int]
  obtain ⟨p, hp, p0, p1⟩ := atI_of (P := fun x => -1 ≤ x ∧ x ≤ 2) [0, 1, -1, 2, 0] a3 (by simp; omega) (by simp)
  simp -implicitDefEqProofs only [List.map_cons, List.map_nil] at hp
  simp -implicitDefEqProofs [hp]
  refine (r_draw r 5 (by omega) (by omega) _ h3).bind ?_
  rintro _ s4 ⟨h4, i4, rfl, a4, b4⟩
  try simp -implicitDefEqProofs [run_out, startE, E.ev, E.tst, Es.ev, Oe.prt, Oe.ok, It.ev, bind_nm, bind_tp, bind_nil, bind_cons, Sl.get, datas, setMany, wipeE, Ty.is, asInt, partOf, fdiv_int, mod_int]
  obtain ⟨q, hq, q0, q1⟩ := atI_of (P := fun x => -3 ≤ x ∧ x ≤ 1) [0, -1, 1, -3, 0] a4 (by simp; omega) (by simp)
  simp -implicitDefEqProofs only [List.map_cons, List.map_nil] at hq
  simp -implicitDefEqProofs [hq]
  exact Tri.pure ⟨h4, ⟨b, i1 - 6, i2 - 6, p, q⟩, rfl, ⟨hb, hb2, by simp; omega, by simp; omega, by simp; omega, by simp; omega, p0, p1, q0, q1⟩, rfl⟩
theorem r_law_house (r : Nat) (st : Sto) (h0 : Pn r st) : Tri (g__law_house [.ref r]) st fun v s => Pn r s ∧ ∃ l : List Way, v = .d (encH l) ∧ House l ∧ ∀ w ∈ l, w.Sm := by
  simp -implicitDefEqProofs [g__law_house, f__law_house, run_out, startE, E.ev, E.tst, Es.ev, Oe.prt, Oe.ok, It.ev, bind_nm, bind_tp, bind_nil, bind_cons, Sl.get, datas, setMany, wipeE, Ty.is, asInt, partOf, fdiv_int, mod_int]
  refine (r_draw r 4 (by omega) (by omega) _ h0).bind ?_
  rintro _ s1 ⟨h1, i1, rfl, a1, b1⟩
  try simp -implicitDefEqProofs [run_out, startE, E.ev, E.tst, Es.ev, Oe.prt, Oe.ok, It.ev, bind_nm, bind_tp, bind_nil, bind_cons, Sl.get, datas, setMany, wipeE, Ty.is, asInt, partOf, fdiv_int, mod_int]
  obtain ⟨b, hb, b0, b1⟩ := atI_of (P := fun x => 0 ≤ x ∧ x ≤ 4) [0, 0, 0, 4] a1 (by simp; omega) (by simp)
  simp -implicitDefEqProofs only [List.map_cons, List.map_nil] at hb
  simp -implicitDefEqProofs [hb, slotsOf, slotOf, putMany, run_out, startE, E.ev, E.tst, Es.ev, Oe.prt, Oe.ok, It.ev, bind_nm, bind_tp, bind_nil, bind_cons, Sl.get, datas, setMany, wipeE, Ty.is, asInt, partOf, fdiv_int, mod_int]
  refine (r_pick r [.int 0, .int 0, .int 1, .int 2] (by decide) (by decide) s1 h1).bind ?_
  rintro _ s2 ⟨h2, p, hp, rfl⟩
  obtain ⟨k, rfl, k0, k1⟩ : ∃ k : Int, p = .int k ∧ 0 ≤ k ∧ k ≤ 2 := by
    simp at hp
    rcases hp with rfl | rfl | rfl <;> exact ⟨_, rfl, by decide, by decide⟩
  try simp -implicitDefEqProofs [run_out, startE, E.ev, E.tst, Es.ev, Oe.prt, Oe.ok, It.ev, bind_nm, bind_tp, bind_nil, bind_cons, Sl.get, datas, setMany, wipeE, Ty.is, asInt, partOf, fdiv_int, mod_int]
  rw [rangeM_ok (by decide) (by decide) (by omega) (by omega)]
  try simp -implicitDefEqProofs [run_out, startE, E.ev, E.tst, Es.ev, Oe.prt, Oe.ok, It.ev, bind_nm, bind_tp, bind_nil, bind_cons, Sl.get, datas, setMany, wipeE, Ty.is, asInt, partOf, fdiv_int, mod_int]
  have rl : (rangeL 0 (1 + k).toNat).length = (1 + k).toNat := by simp -implicitDefEqProofs [rangeL]
  refine Tri.out (Tri.seq (Tri.forN (I := fun i env s => Pn r s ∧ ∃ (b : Int) (l : List Way) (x : Sl), env = [.v (.ref r), x, .v (.d (.int b)), .own (l.map Way.enc)] ∧ l.length = i ∧ 0 ≤ b ∧ b ≤ 4 + 8 * i ∧ (∀ w ∈ l, w.Sm ∧ w.b < b) ∧ (l.map Way.b).Pairwise (· < ·)) 0 ?_ ?_ ?_))
  · exact ⟨h2, b, [], .un, rfl, rfl, b0, by omega, fun _ h => absurd h List.not_mem_nil, List.Pairwise.nil⟩
  · rintro i hi env st ⟨hp, b, l, x, rfl, hl, c0, c1, hw, pw⟩
    rw [rl] at hi
    refine ⟨_, by simp -implicitDefEqProofs [run_out, startE, E.ev, E.tst, Es.ev, Oe.prt, Oe.ok, It.ev, bind_nm, bind_tp, bind_nil, bind_cons, Sl.get, datas, setMany, wipeE, Ty.is, asInt, partOf, fdiv_int, mod_int]; rfl, Tri.hide fun R up => ?_⟩
    simp -implicitDefEqProofs [f__law_house_l1, run_out, startE, E.ev, E.tst, Es.ev, Oe.prt, Oe.ok, It.ev, bind_nm, bind_tp, bind_nil, bind_cons, Sl.get, datas, setMany, wipeE, Ty.is, asInt, partOf, fdiv_int, mod_int]
    refine (r_law_way r b st hp c0 (by omega)).bind ?_
    rintro _ s3 ⟨h3, w, rfl, w1, w2⟩
    have fl : l.length < 16777216 := by omega
    simp -implicitDefEqProofs [fl, run_out, startE, E.ev, E.tst, Es.ev, Oe.prt, Oe.ok, It.ev, bind_nm, bind_tp, bind_nil, bind_cons, Sl.get, datas, setMany, wipeE, Ty.is, asInt, partOf, fdiv_int, mod_int]
    refine (r_draw r 8 (by omega) (by omega) _ h3).bind ?_
    rintro _ s4 ⟨h4, i4, rfl, a4, b4⟩
    try simp -implicitDefEqProofs [run_out, startE, E.ev, E.tst, Es.ev, Oe.prt, Oe.ok, It.ev, bind_nm, bind_tp, bind_nil, bind_cons, Sl.get, datas, setMany, wipeE, Ty.is, asInt, partOf, fdiv_int, mod_int]
    refine Tri.pure (up _ _ ⟨h4, b + 1 + i4, l ++ [w], _, by simp; rfl, by simp; omega, by omega, by omega, fun v hv => ?_, ?_⟩)
    · rcases List.mem_append.mp hv with z | z
      · exact ⟨(hw v z).1, by have := (hw v z).2; omega⟩
      · rw [List.mem_singleton.mp z]
        exact ⟨w1, by omega⟩
    · rw [List.map_append]
      refine List.pairwise_append.mpr ⟨pw, by simp, fun a ha c hc => ?_⟩
      obtain ⟨v, hv, rfl⟩ := List.mem_map.mp ha
      simp at hc
      have := (hw v hv).2
      omega
  · rintro env s ⟨hp, b, l, x, rfl, hl, c0, c1, hw, pw⟩
    rw [rl] at hl
    refine Rest.nx ?_
    try simp -implicitDefEqProofs [run_out, startE, E.ev, E.tst, Es.ev, Oe.prt, Oe.ok, It.ev, bind_nm, bind_tp, bind_nil, bind_cons, Sl.get, datas, setMany, wipeE, Ty.is, asInt, partOf, fdiv_int, mod_int]
    exact Tri.pure ⟨hp, l, rfl, ⟨by omega, by omega, fun w z => (hw w z).1.ok, risesB_of pw⟩, fun w z => (hw w z).1⟩
theorem r_edge (r : Nat) (st : Sto) (h0 : Pn r st) : Tri (g__law_edge_way [.ref r]) st fun v s => Pn r s ∧ ∃ w : Way, v = .d w.enc ∧ w.Ok := by
  refine Tri.runH ⟨rfl, Nat.le_of_ble_eq_true rfl⟩ fun R0 up0 => ?_
  refine Tri.step fun R up => ?_
  simp -implicitDefEqProofs [run_out, startE, E.ev, E.tst, Es.ev, Oe.prt, Oe.ok, It.ev, bind_nm, bind_tp, bind_nil, bind_cons, Sl.get, datas, setMany, wipeE, Ty.is, asInt, partOf, fdiv_int, mod_int]
  refine (r_draw r 151 (by omega) (by omega) _ h0).bind ?_
  rintro _ s1 ⟨h1, i1, rfl, a1, b1⟩
  try simp -implicitDefEqProofs [run_out, startE, E.ev, E.tst, Es.ev, Oe.prt, Oe.ok, It.ev, bind_nm, bind_tp, bind_nil, bind_cons, Sl.get, datas, setMany, wipeE, Ty.is, asInt, partOf, fdiv_int, mod_int]
  refine (r_draw r 4 (by omega) (by omega) _ h1).bind ?_
  rintro _ s2 ⟨h2, i2, rfl, a2, b2⟩
  try simp -implicitDefEqProofs [run_out, startE, E.ev, E.tst, Es.ev, Oe.prt, Oe.ok, It.ev, bind_nm, bind_tp, bind_nil, bind_cons, Sl.get, datas, setMany, wipeE, Ty.is, asInt, partOf, fdiv_int, mod_int]
  obtain ⟨x, hx, x0, x1⟩ := atI_of (P := fun x => -50 ≤ x ∧ x ≤ 100) [-50, 100, 0, i1 - 50] a2 (by simp; omega) (by simp; omega)
  simp -implicitDefEqProofs only [List.map_cons, List.map_nil] at hx
  simp -implicitDefEqProofs [hx, run_out, startE, E.ev, E.tst, Es.ev, Oe.prt, Oe.ok, It.ev, bind_nm, bind_tp, bind_nil, bind_cons, Sl.get, datas, setMany, wipeE, Ty.is, asInt, partOf, fdiv_int, mod_int]
  refine Tri.pure (up _ _ (Rest.nx ?_))
  refine Tri.step fun R up => ?_
  simp -implicitDefEqProofs [run_out, startE, E.ev, E.tst, Es.ev, Oe.prt, Oe.ok, It.ev, bind_nm, bind_tp, bind_nil, bind_cons, Sl.get, datas, setMany, wipeE, Ty.is, asInt, partOf, fdiv_int, mod_int]
  refine (r_draw r 151 (by omega) (by omega) _ h2).bind ?_
  rintro _ s3 ⟨h3, i3, rfl, a3, b3⟩
  try simp -implicitDefEqProofs [run_out, startE, E.ev, E.tst, Es.ev, Oe.prt, Oe.ok, It.ev, bind_nm, bind_tp, bind_nil, bind_cons, Sl.get, datas, setMany, wipeE, Ty.is, asInt, partOf, fdiv_int, mod_int]
  refine (r_draw r 4 (by omega) (by omega) _ h3).bind ?_
  rintro _ s4 ⟨h4, i4, rfl, a4, b4⟩
  try simp -implicitDefEqProofs [run_out, startE, E.ev, E.tst, Es.ev, Oe.prt, Oe.ok, It.ev, bind_nm, bind_tp, bind_nil, bind_cons, Sl.get, datas, setMany, wipeE, Ty.is, asInt, partOf, fdiv_int, mod_int]
  obtain ⟨y, hy, y0, y1⟩ := atI_of (P := fun x => -50 ≤ x ∧ x ≤ 100) [-50, 100, 7, i3 - 50] a4 (by simp; omega) (by simp; omega)
  simp -implicitDefEqProofs only [List.map_cons, List.map_nil] at hy
  simp -implicitDefEqProofs [hy, run_out, startE, E.ev, E.tst, Es.ev, Oe.prt, Oe.ok, It.ev, bind_nm, bind_tp, bind_nil, bind_cons, Sl.get, datas, setMany, wipeE, Ty.is, asInt, partOf, fdiv_int, mod_int]
  refine Tri.pure (up _ _ (Rest.nx ?_))
  refine Tri.step fun R up => ?_
  simp -implicitDefEqProofs [run_out, startE, E.ev, E.tst, Es.ev, Oe.prt, Oe.ok, It.ev, bind_nm, bind_tp, bind_nil, bind_cons, Sl.get, datas, setMany, wipeE, Ty.is, asInt, partOf, fdiv_int, mod_int]
  refine (r_draw r 256 (by omega) (by omega) _ h4).bind ?_
  rintro _ s5 ⟨h5, i5, rfl, a5, b5⟩
  try simp -implicitDefEqProofs [run_out, startE, E.ev, E.tst, Es.ev, Oe.prt, Oe.ok, It.ev, bind_nm, bind_tp, bind_nil, bind_cons, Sl.get, datas, setMany, wipeE, Ty.is, asInt, partOf, fdiv_int, mod_int]
  refine (r_draw r 5 (by omega) (by omega) _ h5).bind ?_
  rintro _ s6 ⟨h6, i6, rfl, a6, b6⟩
  try simp -implicitDefEqProofs [run_out, startE, E.ev, E.tst, Es.ev, Oe.prt, Oe.ok, It.ev, bind_nm, bind_tp, bind_nil, bind_cons, Sl.get, datas, setMany, wipeE, Ty.is, asInt, partOf, fdiv_int, mod_int]
  obtain ⟨b, hb, b0, b1⟩ := atI_of (P := fun x => 0 ≤ x ∧ x ≤ 255) [0, 255, 15, 16, i5] a6 (by simp; omega) (by simp; omega)
  simp -implicitDefEqProofs only [List.map_cons, List.map_nil] at hb
  simp -implicitDefEqProofs [hb, run_out, startE, E.ev, E.tst, Es.ev, Oe.prt, Oe.ok, It.ev, bind_nm, bind_tp, bind_nil, bind_cons, Sl.get, datas, setMany, wipeE, Ty.is, asInt, partOf, fdiv_int, mod_int]
  refine Tri.pure (up _ _ (Rest.nx ?_))
  refine Tri.stepL fun R up => ?_
  simp -implicitDefEqProofs [run_out, startE, E.ev, E.tst, Es.ev, Oe.prt, Oe.ok, It.ev, bind_nm, bind_tp, bind_nil, bind_cons, Sl.get, datas, setMany, wipeE, Ty.is, asInt, partOf, fdiv_int, mod_int]
  refine (r_draw r 15 (by omega) (by omega) _ h6).bind ?_
  rintro _ s7 ⟨h7, i7, rfl, a7, b7⟩
  try simp -implicitDefEqProofs [run_out, startE, E.ev, E.tst, Es.ev, Oe.prt, Oe.ok, It.ev, bind_nm, bind_tp, bind_nil, bind_cons, Sl.get, datas, setMany, wipeE, Ty.is, asInt, partOf, fdiv_int, mod_int]
  refine (r_draw r 4 (by omega) (by omega) _ h7).bind ?_
  rintro _ s8 ⟨h8, i8, rfl, a8, b8⟩
  try simp -implicitDefEqProofs [run_out, startE, E.ev, E.tst, Es.ev, Oe.prt, Oe.ok, It.ev, bind_nm, bind_tp, bind_nil, bind_cons, Sl.get, datas, setMany, wipeE, Ty.is, asInt, partOf, fdiv_int, mod_int]
  obtain ⟨p, hp, p0, p1⟩ := atI_of (P := fun x => -7 ≤ x ∧ x ≤ 7) [-7, 7, 0, i7 - 7] a8 (by simp; omega) (by simp; omega)
  simp -implicitDefEqProofs only [List.map_cons, List.map_nil] at hp
  simp -implicitDefEqProofs [hp, run_out, startE, E.ev, E.tst, Es.ev, Oe.prt, Oe.ok, It.ev, bind_nm, bind_tp, bind_nil, bind_cons, Sl.get, datas, setMany, wipeE, Ty.is, asInt, partOf, fdiv_int, mod_int]
  refine (r_draw r 15 (by omega) (by omega) _ h8).bind ?_
  rintro _ s9 ⟨h9, i9, rfl, a9, b9⟩
  try simp -implicitDefEqProofs [run_out, startE, E.ev, E.tst, Es.ev, Oe.prt, Oe.ok, It.ev, bind_nm, bind_tp, bind_nil, bind_cons, Sl.get, datas, setMany, wipeE, Ty.is, asInt, partOf, fdiv_int, mod_int]
  exact Tri.pure (up _ _ (up0 _ _ ⟨h9, ⟨b, x, y, p, i9 - 7⟩, rfl, ⟨b0, b1, x0, x1, y0, y1, p0, p1, by simp; omega, by simp; omega⟩⟩))

end Lw

set_option Elab.async false
set_option linter.all false
set_option maxRecDepth 100000
set_option maxHeartbeats 1000000
namespace Lw
open PySem Fb
def f_is_net_c1 : Fb.E := (.call "is_house" g_is_house (.cons (.var 6) .nil))
def f_is_net : Fn := ⟨1, 7, (.cons (.ifs (.or (.not (.isi (.var 0) .tuple)) (.cmp .ne (.blt .len (.cons (.var 0) .nil)) (.cst (.int 5)))) (.cons (.ret (.cst (.bool false))) .nil) .nil) (.cons (.set (.tp (.cons (.nm 1) (.cons (.nm 2) (.cons (.nm 3) (.cons (.nm 4) (.cons (.nm 5) .nil)))))) (.var 0)) (.cons (.ifs (.or (.not (.call "is_within" g_is_within (.cons (.var 1) (.cons (.cst (.int 1)) (.cons (.glo "MOST_SIDE" (.int 12)) .nil))))) (.not (.call "is_within" g_is_within (.cons (.var 2) (.cons (.cst (.int 1)) (.cons (.glo "MOST_SIDE" (.int 12)) .nil)))))) (.cons (.ret (.cst (.bool false))) .nil) .nil) (.cons (.ifs (.or (.not (.call "is_within" g_is_within (.cons (.var 3) (.cons (.cst (.int 0)) (.cons (.glo "MOST_CLOCKS" (.int 12)) .nil))))) (.not (.call "is_within" g_is_within (.cons (.var 4) (.cons (.cst (.int 0)) (.cons (.glo "MOST_SLIP" (.int 4)) .nil)))))) (.cons (.ret (.cst (.bool false))) .nil) .nil) (.cons (.ret (.and (.isi (.var 5) .tuple) (.and (.chn .le .le (.cst (.int 1)) (.blt .len (.cons (.var 5) .nil)) (.glo "MOST_HOUSES" (.int 6))) (.blt .all (.cons (.lc [6] (.gen [6] (.seq (.var 5)) (.nm 6) .no (.fin f_is_net_c1))) .nil))))) .nil)))))⟩
def g_is_net : List D → M D := f_is_net.run
def f_need_net : Fn := ⟨1, 1, (.cons (.ifs (.not (.call "is_net" g_is_net (.cons (.var 0) .nil))) (.cons (.raise "NoNet" "no net") .nil) .nil) .nil)⟩
def g_need_net : List D → M D := f_need_net.run
def f_is_place : Fn := ⟨2, 2, (.cons (.ifs (.or (.not (.isi (.var 1) .tuple)) (.cmp .ne (.blt .len (.cons (.var 1) .nil)) (.cst (.int 2)))) (.cons (.ret (.cst (.bool false))) .nil) .nil) (.cons (.ret (.and (.call "is_within" g_is_within (.cons (.ix (.var 1) (.cst (.int 0))) (.cons (.cst (.int 0)) (.cons (.bin .sub (.ix (.var 0) (.cst (.int 0))) (.cst (.int 1))) .nil)))) (.call "is_within" g_is_within (.cons (.ix (.var 1) (.cst (.int 1))) (.cons (.cst (.int 0)) (.cons (.bin .sub (.ix (.var 0) (.cst (.int 1))) (.cst (.int 1))) .nil)))))) .nil))⟩
def g_is_place : List D → M D := f_is_place.run
def f_is_stand_by : Fn := ⟨2, 2, (.cons (.ifs (.or (.not (.isi (.var 1) .tuple)) (.cmp .ne (.blt .len (.cons (.var 1) .nil)) (.cst (.int 3)))) (.cons (.ret (.cst (.bool false))) .nil) .nil) (.cons (.ret (.and (.call "is_place" g_is_place (.cons (.var 0) (.cons (.cut (.var 1) .no (.yes (.cst (.int 2)))) .nil))) (.call "is_within" g_is_within (.cons (.ix (.var 1) (.cst (.int 2))) (.cons (.neg (.ix (.var 0) (.cst (.int 2)))) (.cons (.ix (.var 0) (.cst (.int 2))) .nil)))))) .nil))⟩
def g_is_stand_by : List D → M D := f_is_stand_by.run
def f_need_stand : Fn := ⟨2, 2, (.cons (.ifs (.not (.call "is_stand_by" g_is_stand_by (.cons (.var 0) (.cons (.var 1) .nil)))) (.cons (.raise "NoStand" "no stand") .nil) .nil) .nil)⟩
def g_need_stand : List D → M D := f_need_stand.run
def f_far : Fn := ⟨2, 2, (.cons (.ret (.blt .max2 (.cons (.blt .abs (.cons (.bin .sub (.ix (.var 0) (.cst (.int 0))) (.ix (.var 1) (.cst (.int 0)))) .nil)) (.cons (.blt .abs (.cons (.bin .sub (.ix (.var 0) (.cst (.int 1))) (.ix (.var 1) (.cst (.int 1)))) .nil)) .nil)))) .nil)⟩
def g_far : List D → M D := f_far.run
def f_due_at : Fn := ⟨4, 4, (.cons (.ret (.bin .add (.bin .add (.var 3) (.call "far" g_far (.cons (.call "place_by" g_place_by (.cons (.ix (.ix (.var 0) (.cst (.int 4))) (.var 2)) (.cons (.var 3) .nil))) (.cons (.cut (.var 1) .no (.yes (.cst (.int 2)))) .nil)))) (.ix (.var 1) (.cst (.int 2))))) .nil)⟩
def g_due_at : List D → M D := f_due_at.run
def f__law_net_c1 : Fb.E := (.call "_law_house" g__law_house (.cons (.var 0) .nil))
def f__law_net : Fn := ⟨2, 7, (.cons (.par [3, 4, 5] (.cons (.bin .add (.cst (.int 1)) (.call "_law_draw" g__law_draw (.cons (.var 0) (.cons (.var 1) .nil)))) (.cons (.bin .add (.cst (.int 1)) (.call "_law_draw" g__law_draw (.cons (.var 0) (.cons (.var 1) .nil)))) (.cons (.call "_law_draw" g__law_draw (.cons (.var 0) (.cons (.cst (.int 3)) .nil))) .nil)))) (.cons (.set (.nm 2) (.blt .tuple (.cons (.lc [6] (.gen [6] (.rng1 (.bin .add (.cst (.int 1)) (.call "_law_draw" g__law_draw (.cons (.var 0) (.cons (.cst (.int 4)) .nil))))) (.nm 6) .no (.fin f__law_net_c1))) .nil))) (.cons (.ret (.tup (.cons (.var 3) (.cons (.var 4) (.cons (.var 5) (.cons (.call "_law_pick" g__law_pick (.cons (.var 0) (.cons (.lst (.cons (.cst (.int 0)) (.cons (.cst (.int 0)) (.cons (.cst (.int 1)) (.cons (.cst (.int 2)) .nil))))) .nil))) (.cons (.var 2) .nil))))))) .nil)))⟩
def g__law_net : List D → M D := f__law_net.run
def f__law_great_net_c1 : Fb.E := (.tup (.cons (.call "_law_edge_way" g__law_edge_way (.cons (.var 0) .nil)) .nil))
def f__law_great_net : Fn := ⟨1, 7, (.cons (.set (.nm 1) (.ix (.lst (.cons (.cst (.int 1)) (.cons (.cst (.int 12)) (.cons (.bin .add (.cst (.int 1)) (.call "_law_draw" g__law_draw (.cons (.var 0) (.cons (.cst (.int 12)) .nil)))) .nil)))) (.call "_law_draw" g__law_draw (.cons (.var 0) (.cons (.cst (.int 3)) .nil))))) (.cons (.set (.nm 2) (.ix (.lst (.cons (.cst (.int 1)) (.cons (.cst (.int 12)) (.cons (.bin .add (.cst (.int 1)) (.call "_law_draw" g__law_draw (.cons (.var 0) (.cons (.cst (.int 12)) .nil)))) .nil)))) (.call "_law_draw" g__law_draw (.cons (.var 0) (.cons (.cst (.int 3)) .nil))))) (.cons (.par [4, 5] (.cons (.ix (.lst (.cons (.cst (.int 0)) (.cons (.cst (.int 12)) (.cons (.call "_law_draw" g__law_draw (.cons (.var 0) (.cons (.cst (.int 13)) .nil))) .nil)))) (.call "_law_draw" g__law_draw (.cons (.var 0) (.cons (.cst (.int 3)) .nil)))) (.cons (.ix (.lst (.cons (.cst (.int 0)) (.cons (.cst (.int 4)) (.cons (.call "_law_draw" g__law_draw (.cons (.var 0) (.cons (.cst (.int 5)) .nil))) .nil)))) (.call "_law_draw" g__law_draw (.cons (.var 0) (.cons (.cst (.int 3)) .nil)))) .nil))) (.cons (.set (.nm 3) (.blt .tuple (.cons (.lc [6] (.gen [6] (.rng1 (.bin .add (.cst (.int 1)) (.call "_law_draw" g__law_draw (.cons (.var 0) (.cons (.cst (.int 6)) .nil))))) (.nm 6) .no (.fin f__law_great_net_c1))) .nil))) (.cons (.ret (.tup (.cons (.var 1) (.cons (.var 2) (.cons (.var 4) (.cons (.var 5) (.cons (.var 3) .nil))))))) .nil)))))⟩
def g__law_great_net : List D → M D := f__law_great_net.run
def f__law_stands_c1 : Fb.E := (.tup (.cons (.var 2) (.cons (.var 3) (.cons (.var 4) .nil))))
def f__law_stands_l1 : Fb.Ss := (.cons (.set (.nm 1) (.bin .add (.var 1) (.lc [4] (.gen [4] (.rng2 (.bin .sub (.cst (.int 0)) (.ix (.var 0) (.cst (.int 2)))) (.bin .add (.ix (.var 0) (.cst (.int 2))) (.cst (.int 1)))) (.nm 4) .no (.fin f__law_stands_c1))))) .nil)
def f__law_stands_l2 : Fb.Ss := (.cons (.for_ (.rng1 (.ix (.var 0) (.cst (.int 1)))) (.nm 3) f__law_stands_l1) .nil)
def f__law_stands : Fn := ⟨1, 5, (.cons (.set (.nm 1) (.lst .nil)) (.cons (.for_ (.rng1 (.ix (.var 0) (.cst (.int 0)))) (.nm 2) f__law_stands_l2) (.cons (.ret (.var 1)) .nil)))⟩
def g__law_stands : List D → M D := f__law_stands.run
/-! ### nets -/
structure Net where
  w : Int
  h : Int
  c : Int
  s : Int
  hs : List (List Way)
def Net.enc (n : Net) : PyData := .tuple [.int n.w, .int n.h, .int n.c, .int n.s, .tuple (n.hs.map encH)]
structure Net.Ok (n : Net) : Prop where
  w0 : 1 ≤ n.w
  w1 : n.w ≤ 12
  h0 : 1 ≤ n.h
  h1 : n.h ≤ 12
  c0 : 0 ≤ n.c
  c1 : n.c ≤ 12
  s0 : 0 ≤ n.s
  s1 : n.s ≤ 4
  l0 : 1 ≤ n.hs.length
  l1 : n.hs.length ≤ 6
  ok : ∀ l ∈ n.hs, House l
theorem Net.neat {n : Net} (h : n.Ok) : Neat 10000 4 n.enc := by
  have := h.w0; have := h.w1; have := h.h0; have := h.h1; have := h.c0; have := h.c1; have := h.s0; have := h.s1; have hl := h.l1
  have a := Neats.all (w := 1000) (d := 2) (ps := n.hs.map encH) fun p hp => by
    obtain ⟨l, hl, rfl⟩ := List.mem_map.mp hp
    exact (h.ok l hl).neat
  have i : ∀ k : Int, 0 ≤ k → k ≤ 12 → Neat 41 3 (.int k) := fun k k0 k1 => (Neat.int (by omega)).mono (Nat.le_refl _) (by omega)
  rw [List.length_map] at a
  exact (Neat.tuple (d := 3) (w := 41 + 1 + (41 + 1 + (41 + 1 + (41 + 1 + (1001 * n.hs.length + 1 + 0))))) (Neats.cons (i n.w (by omega) (by omega)) (Neats.cons (i n.h (by omega) (by omega)) (Neats.cons (i n.c (by omega) (by omega)) (Neats.cons (i n.s (by omega) (by omega)) (Neats.cons (Neat.tuple a) (Neats.nil.mono (w' := 0) (d' := 3) (Nat.zero_le _) (Nat.zero_le _)))))))).mono (by omega) (by omega)
theorem r_is_net {t : Net} (h : t.Ok) : g_is_net [.d t.enc] = M.pure (bl true) := by
  have l0 : (1 : Int) ≤ t.hs.length := by have := h.l0; omega
  have l1 : (t.hs.length : Int) ≤ 6 := by have := h.l1; omega
  have f1 : fitsLine t.hs.length = true := fits_small (by have := h.l1; omega)
  simp -implicitDefEqProofs [g_is_net, f_is_net, run_out, startE, E.ev, E.tst, Es.ev, Oe.prt, Oe.ok, It.ev, bind_nm, bind_tp, bind_nil, bind_cons, Sl.get, datas, setMany, wipeE, Ty.is, asInt, partOf, fdiv_int, mod_int, Net.enc, r_is_within, isIn_int h.w0 h.w1, isIn_int h.h0 h.h1, isIn_int h.c0 h.c1, isIn_int h.s0 h.s1, l0, l1]
  rw [genB_all (L := t.hs) (enc := fun l => D.d (encH l)) (g := fun _ => .bool true) (by rfl) fun w hw => ⟨_, rfl, by simp -implicitDefEqProofs [f_is_net_c1, run_out, startE, E.ev, E.tst, Es.ev, Oe.prt, Oe.ok, It.ev, bind_nm, bind_tp, bind_nil, bind_cons, Sl.get, datas, setMany, wipeE, Ty.is, asInt, partOf, fdiv_int, mod_int, r_is_house (h.ok w hw)]⟩]
  simp -implicitDefEqProofs [f1, all_true, all_tt]
theorem r_need_net {t : Net} (h : t.Ok) : g_need_net [.d t.enc] = M.pure (.d .none) := by
  simp -implicitDefEqProofs [g_need_net, f_need_net, run_out, startE, E.ev, E.tst, Es.ev, Oe.prt, Oe.ok, It.ev, bind_nm, bind_tp, bind_nil, bind_cons, Sl.get, datas, setMany, wipeE, Ty.is, asInt, partOf, fdiv_int, mod_int, r_is_net h]
theorem houses_of {hs : List PyData} {P : List Way → Prop} : (∀ p ∈ hs, ∃ l, p = encH l ∧ P l) → ∃ ls : List (List Way), hs = ls.map encH ∧ ∀ l ∈ ls, P l := by
  induction hs with
  | nil => exact fun _ => ⟨[], rfl, fun _ h => absurd h List.not_mem_nil⟩
  | cons p ps ih =>
    intro h
    obtain ⟨l, e, k⟩ := h p List.mem_cons_self
    obtain ⟨ls, e2, k2⟩ := ih fun q hq => h q (List.mem_cons_of_mem _ hq)
    refine ⟨l :: ls, by rw [e, e2]; rfl, fun m hm => ?_⟩
    rcases List.mem_cons.mp hm with z | z
    · rw [z]; exact k
    · exact k2 m z
/-- the law's nets: small ones -/
structure Net.Sm (t : Net) (most : Int) : Prop where
  ok : t.Ok
  w1 : t.w ≤ most
  h1 : t.h ≤ most
  c1 : t.c ≤ 2
  s1 : t.s ≤ 3
  l1 : t.hs.length ≤ 5
  sm : ∀ l ∈ t.hs, ∀ w ∈ l, w.Sm
theorem r_net (r : Nat) (most : Int) (m0 : 0 < most) (m1 : most ≤ 12) (st : Sto) (h0 : Pn r st) : Tri (g__law_net [.ref r, .d (.int most)]) st fun v s => Pn r s ∧ ∃ t : Net, v = .d t.enc ∧ t.Sm most := by
  refine Tri.runH ⟨rfl, Nat.le_of_ble_eq_true rfl⟩ fun R0 up0 => ?_
  refine Tri.step fun R up => ?_
  simp -implicitDefEqProofs [run_out, startE, E.ev, E.tst, Es.ev, Oe.prt, Oe.ok, It.ev, bind_nm, bind_tp, bind_nil, bind_cons, Sl.get, datas, setMany, wipeE, Ty.is, asInt, partOf, fdiv_int, mod_int]
  refine (r_draw r most (by omega) (by omega) _ h0).bind ?_
  rintro _ s1 ⟨h1, i1, rfl, a1, b1⟩
  try simp -implicitDefEqProofs [run_out, startE, E.ev, E.tst, Es.ev, Oe.prt, Oe.ok, It.ev, bind_nm, bind_tp, bind_nil, bind_cons, Sl.get, datas, setMany, wipeE, Ty.is, asInt, partOf, fdiv_int, mod_int]
  refine (r_draw r most (by omega) (by omega) _ h1).bind ?_
  rintro _ s2 ⟨h2, i2, rfl, a2, b2⟩
  try simp -implicitDefEqProofs [run_out, startE, E.ev, E.tst, Es.ev, Oe.prt, Oe.ok, It.ev, bind_nm, bind_tp, bind_nil, bind_cons, Sl.get, datas, setMany, wipeE, Ty.is, asInt, partOf, fdiv_int, mod_int]
  refine (r_draw r 3 (by omega) (by omega) _ h2).bind ?_
  rintro _ s3 ⟨h3, i3, rfl, a3, b3⟩
  try simp -implicitDefEqProofs [run_out, startE, E.ev, E.tst, Es.ev, Oe.prt, Oe.ok, It.ev, bind_nm, bind_tp, bind_nil, bind_cons, Sl.get, datas, setMany, wipeE, Ty.is, asInt, partOf, fdiv_int, mod_int]
  refine Tri.pure (up _ _ (Rest.nx ?_))
  refine Tri.step fun R up => ?_
  simp -implicitDefEqProofs [run_out, startE, E.ev, E.tst, Es.ev, Oe.prt, Oe.ok, It.ev, bind_nm, bind_tp, bind_nil, bind_cons, Sl.get, datas, setMany, wipeE, Ty.is, asInt, partOf, fdiv_int, mod_int]
  refine Tri.bind (P := fun v s => Pn r s ∧ ∃ ls : List (List Way), v = .d (.list (ls.map encH)) ∧ 1 ≤ ls.length ∧ ls.length ≤ 4 ∧ ∀ l ∈ ls, House l ∧ ∀ w ∈ l, w.Sm) (Tri.calm (Tri.hide fun R1 up1 => ?_)) ?_
  · skip
    refine (r_draw r 4 (by omega) (by omega) _ h3).bind ?_
    rintro _ s4 ⟨h4, i4, rfl, a4, b4⟩
    try simp -implicitDefEqProofs [run_out, startE, E.ev, E.tst, Es.ev, Oe.prt, Oe.ok, It.ev, bind_nm, bind_tp, bind_nil, bind_cons, Sl.get, datas, setMany, wipeE, Ty.is, asInt, partOf, fdiv_int, mod_int]
    refine Tri.lcR (I := Pn r) (P := fun p => ∃ l, p = encH l ∧ House l ∧ ∀ w ∈ l, w.Sm) (by omega) (by omega) (by omega) (by omega) h4 (fun x st hp => ⟨_, rfl, Tri.hide fun R up => ?_⟩) fun ps s5 h5 hl hk => ?_
    · simp -implicitDefEqProofs [f__law_net_c1, run_out, startE, E.ev, E.tst, Es.ev, Oe.prt, Oe.ok, It.ev, bind_nm, bind_tp, bind_nil, bind_cons, Sl.get, datas, setMany, wipeE, Ty.is, asInt, partOf, fdiv_int, mod_int]
      exact (r_law_house r st hp).imp fun v s ⟨h, l, e, k⟩ => up _ _ ⟨h, _, e, l, rfl, k⟩
    · obtain ⟨ls, rfl, k⟩ := houses_of hk
      rw [List.length_map] at hl
      exact up1 _ _ ⟨h5, ls, rfl, by omega, by omega, k⟩
  · rintro _ s5 ⟨h5, ls, rfl, hl, hl2, k⟩
    try simp -implicitDefEqProofs [run_out, startE, E.ev, E.tst, Es.ev, Oe.prt, Oe.ok, It.ev, bind_nm, bind_tp, bind_nil, bind_cons, Sl.get, datas, setMany, wipeE, Ty.is, asInt, partOf, fdiv_int, mod_int]
    refine Tri.pure (up _ _ (Rest.nx ?_))
    refine Tri.stepL fun R up => ?_
    simp -implicitDefEqProofs [run_out, startE, E.ev, E.tst, Es.ev, Oe.prt, Oe.ok, It.ev, bind_nm, bind_tp, bind_nil, bind_cons, Sl.get, datas, setMany, wipeE, Ty.is, asInt, partOf, fdiv_int, mod_int]
    refine (r_pick r [.int 0, .int 0, .int 1, .int 2] (by decide) (by decide) s5 h5).bind ?_
    rintro _ s6 ⟨h6, p, hp, rfl⟩
    obtain ⟨z, rfl, z0, z1⟩ : ∃ z : Int, p = .int z ∧ 0 ≤ z ∧ z ≤ 2 := by
      simp at hp
      rcases hp with rfl | rfl | rfl <;> exact ⟨_, rfl, by decide, by decide⟩
    try simp -implicitDefEqProofs [run_out, startE, E.ev, E.tst, Es.ev, Oe.prt, Oe.ok, It.ev, bind_nm, bind_tp, bind_nil, bind_cons, Sl.get, datas, setMany, wipeE, Ty.is, asInt, partOf, fdiv_int, mod_int]
    exact Tri.pure (up _ _ (up0 _ _ ⟨h6, ⟨1 + i1, 1 + i2, i3, z, ls⟩, rfl, ⟨by constructor <;> simp <;> first | omega | exact fun l hl => (k l hl).1, by simp; omega, by simp; omega, by simp; omega, by simp; omega, by simp; omega, fun l hl => (k l hl).2⟩⟩))
theorem r_great (r : Nat) (st : Sto) (h0 : Pn r st) : Tri (g__law_great_net [.ref r]) st fun v s => Pn r s ∧ ∃ t : Net, v = .d t.enc ∧ t.Ok ∧ ∀ l ∈ t.hs, ∃ w, l = [w] := by
  refine Tri.runH ⟨rfl, Nat.le_of_ble_eq_true rfl⟩ fun R0 up0 => ?_
  refine Tri.step fun R up => ?_
  simp -implicitDefEqProofs [run_out, startE, E.ev, E.tst, Es.ev, Oe.prt, Oe.ok, It.ev, bind_nm, bind_tp, bind_nil, bind_cons, Sl.get, datas, setMany, wipeE, Ty.is, asInt, partOf, fdiv_int, mod_int]
  refine (r_draw r 12 (by omega) (by omega) _ h0).bind ?_
  rintro _ s1 ⟨h1, i1, rfl, a1, b1⟩
  try simp -implicitDefEqProofs [run_out, startE, E.ev, E.tst, Es.ev, Oe.prt, Oe.ok, It.ev, bind_nm, bind_tp, bind_nil, bind_cons, Sl.get, datas, setMany, wipeE, Ty.is, asInt, partOf, fdiv_int, mod_int]
  refine (r_draw r 3 (by omega) (by omega) _ h1).bind ?_
  rintro _ s2 ⟨h2, i2, rfl, a2, b2⟩
  try simp -implicitDefEqProofs [run_out, startE, E.ev, E.tst, Es.ev, Oe.prt, Oe.ok, It.ev, bind_nm, bind_tp, bind_nil, bind_cons, Sl.get, datas, setMany, wipeE, Ty.is, asInt, partOf, fdiv_int, mod_int]
  obtain ⟨w, hw, w0, w1⟩ := atI_of (P := fun x => 1 ≤ x ∧ x ≤ 12) [1, 12, 1 + i1] a2 (by simp; omega) (by simp; omega)
  simp -implicitDefEqProofs only [List.map_cons, List.map_nil] at hw
  simp -implicitDefEqProofs [hw, run_out, startE, E.ev, E.tst, Es.ev, Oe.prt, Oe.ok, It.ev, bind_nm, bind_tp, bind_nil, bind_cons, Sl.get, datas, setMany, wipeE, Ty.is, asInt, partOf, fdiv_int, mod_int]
  refine Tri.pure (up _ _ (Rest.nx ?_))
  refine Tri.step fun R up => ?_
  simp -implicitDefEqProofs [run_out, startE, E.ev, E.tst, Es.ev, Oe.prt, Oe.ok, It.ev, bind_nm, bind_tp, bind_nil, bind_cons, Sl.get, datas, setMany, wipeE, Ty.is, asInt, partOf, fdiv_int, mod_int]
  refine (r_draw r 12 (by omega) (by omega) _ h2).bind ?_
  rintro _ s3 ⟨h3, i3, rfl, a3, b3⟩
  try simp -implicitDefEqProofs [run_out, startE, E.ev, E.tst, Es.ev, Oe.prt, Oe.ok, It.ev, bind_nm, bind_tp, bind_nil, bind_cons, Sl.get, datas, setMany, wipeE, Ty.is, asInt, partOf, fdiv_int, mod_int]
  refine (r_draw r 3 (by omega) (by omega) _ h3).bind ?_
  rintro _ s4 ⟨h4, i4, rfl, a4, b4⟩
  try simp -implicitDefEqProofs [run_out, startE, E.ev, E.tst, Es.ev, Oe.prt, Oe.ok, It.ev, bind_nm, bind_tp, bind_nil, bind_cons, Sl.get, datas, setMany, wipeE, Ty.is, asInt, partOf, fdiv_int, mod_int]
  obtain ⟨hh, hhh, hh0, hh1⟩ := atI_of (P := fun x => 1 ≤ x ∧ x ≤ 12) [1, 12, 1 + i3] a4 (by simp; omega) (by simp; omega)
  simp -implicitDefEqProofs only [List.map_cons, List.map_nil] at hhh
  simp -implicitDefEqProofs [hhh, run_out, startE, E.ev, E.tst, Es.ev, Oe.prt, Oe.ok, It.ev, bind_nm, bind_tp, bind_nil, bind_cons, Sl.get, datas, setMany, wipeE, Ty.is, asInt, partOf, fdiv_int, mod_int]
  refine Tri.pure (up _ _ (Rest.nx ?_))
  refine Tri.step fun R up => ?_
  simp -implicitDefEqProofs [run_out, startE, E.ev, E.tst, Es.ev, Oe.prt, Oe.ok, It.ev, bind_nm, bind_tp, bind_nil, bind_cons, Sl.get, datas, setMany, wipeE, Ty.is, asInt, partOf, fdiv_int, mod_int]
  refine (r_draw r 13 (by omega) (by omega) _ h4).bind ?_
  rintro _ s5 ⟨h5, i5, rfl, a5, b5⟩
  try simp -implicitDefEqProofs [run_out, startE, E.ev, E.tst, Es.ev, Oe.prt, Oe.ok, It.ev, bind_nm, bind_tp, bind_nil, bind_cons, Sl.get, datas, setMany, wipeE, Ty.is, asInt, partOf, fdiv_int, mod_int]
  refine (r_draw r 3 (by omega) (by omega) _ h5).bind ?_
  rintro _ s6 ⟨h6, i6, rfl, a6, b6⟩
  try simp -implicitDefEqProofs [run_out, startE, E.ev, E.tst, Es.ev, Oe.prt, Oe.ok, It.ev, bind_nm, bind_tp, bind_nil, bind_cons, Sl.get, datas, setMany, wipeE, Ty.is, asInt, partOf, fdiv_int, mod_int]
  obtain ⟨c, hc, c0, c1⟩ := atI_of (P := fun x => 0 ≤ x ∧ x ≤ 12) [0, 12, i5] a6 (by simp; omega) (by simp; omega)
  simp -implicitDefEqProofs only [List.map_cons, List.map_nil] at hc
  simp -implicitDefEqProofs [hc, run_out, startE, E.ev, E.tst, Es.ev, Oe.prt, Oe.ok, It.ev, bind_nm, bind_tp, bind_nil, bind_cons, Sl.get, datas, setMany, wipeE, Ty.is, asInt, partOf, fdiv_int, mod_int]
  refine (r_draw r 5 (by omega) (by omega) _ h6).bind ?_
  rintro _ s7 ⟨h7, i7, rfl, a7, b7⟩
  try simp -implicitDefEqProofs [run_out, startE, E.ev, E.tst, Es.ev, Oe.prt, Oe.ok, It.ev, bind_nm, bind_tp, bind_nil, bind_cons, Sl.get, datas, setMany, wipeE, Ty.is, asInt, partOf, fdiv_int, mod_int]
  refine (r_draw r 3 (by omega) (by omega) _ h7).bind ?_
  rintro _ s8 ⟨h8, i8, rfl, a8, b8⟩
  try simp -implicitDefEqProofs [run_out, startE, E.ev, E.tst, Es.ev, Oe.prt, Oe.ok, It.ev, bind_nm, bind_tp, bind_nil, bind_cons, Sl.get, datas, setMany, wipeE, Ty.is, asInt, partOf, fdiv_int, mod_int]
  obtain ⟨z, hz, z0, z1⟩ := atI_of (P := fun x => 0 ≤ x ∧ x ≤ 4) [0, 4, i7] a8 (by simp; omega) (by simp; omega)
  simp -implicitDefEqProofs only [List.map_cons, List.map_nil] at hz
  simp -implicitDefEqProofs [hz, run_out, startE, E.ev, E.tst, Es.ev, Oe.prt, Oe.ok, It.ev, bind_nm, bind_tp, bind_nil, bind_cons, Sl.get, datas, setMany, wipeE, Ty.is, asInt, partOf, fdiv_int, mod_int]
  refine Tri.pure (up _ _ (Rest.nx ?_))
  refine Tri.step fun R up => ?_
  simp -implicitDefEqProofs [run_out, startE, E.ev, E.tst, Es.ev, Oe.prt, Oe.ok, It.ev, bind_nm, bind_tp, bind_nil, bind_cons, Sl.get, datas, setMany, wipeE, Ty.is, asInt, partOf, fdiv_int, mod_int]
  refine Tri.bind (P := fun v s => Pn r s ∧ ∃ ls : List (List Way), v = .d (.list (ls.map encH)) ∧ 1 ≤ ls.length ∧ ls.length ≤ 6 ∧ ∀ l ∈ ls, House l ∧ ∃ w, l = [w]) (Tri.calm (Tri.hide fun R1 up1 => ?_)) ?_
  · skip
    refine (r_draw r 6 (by omega) (by omega) _ h8).bind ?_
    rintro _ s9 ⟨h9, i9, rfl, a9, b9⟩
    try simp -implicitDefEqProofs [run_out, startE, E.ev, E.tst, Es.ev, Oe.prt, Oe.ok, It.ev, bind_nm, bind_tp, bind_nil, bind_cons, Sl.get, datas, setMany, wipeE, Ty.is, asInt, partOf, fdiv_int, mod_int]
    refine Tri.lcR (I := Pn r) (P := fun p => ∃ l, p = encH l ∧ House l ∧ ∃ w, l = [w]) (by omega) (by omega) (by omega) (by omega) h9 (fun x st hp => ⟨_, rfl, Tri.hide fun R up => ?_⟩) fun ps s5 h5 hl hk => ?_
    · simp -implicitDefEqProofs [f__law_great_net_c1, run_out, startE, E.ev, E.tst, Es.ev, Oe.prt, Oe.ok, It.ev, bind_nm, bind_tp, bind_nil, bind_cons, Sl.get, datas, setMany, wipeE, Ty.is, asInt, partOf, fdiv_int, mod_int]
      refine (r_edge r st hp).bind ?_
      rintro _ s ⟨h, w, rfl, k⟩
      simp
      exact Tri.pure (up _ _ ⟨h, _, rfl, [w], rfl, ⟨by simp, by simp, by simpa using k, rfl⟩, _, rfl⟩)
    · obtain ⟨ls, rfl, k⟩ := houses_of hk
      rw [List.length_map] at hl
      exact up1 _ _ ⟨h5, ls, rfl, by omega, by omega, k⟩
  · rintro _ s5 ⟨h5, ls, rfl, hl, hl2, k⟩
    try simp -implicitDefEqProofs [run_out, startE, E.ev, E.tst, Es.ev, Oe.prt, Oe.ok, It.ev, bind_nm, bind_tp, bind_nil, bind_cons, Sl.get, datas, setMany, wipeE, Ty.is, asInt, partOf, fdiv_int, mod_int]
    refine Tri.pure (up _ _ (Rest.nx ?_))
    refine Tri.stepL fun R up => ?_
    simp -implicitDefEqProofs [run_out, startE, E.ev, E.tst, Es.ev, Oe.prt, Oe.ok, It.ev, bind_nm, bind_tp, bind_nil, bind_cons, Sl.get, datas, setMany, wipeE, Ty.is, asInt, partOf, fdiv_int, mod_int]
    exact Tri.pure (up _ _ (up0 _ _ ⟨h5, ⟨w, hh, c, z, ls⟩, rfl, ⟨w0, w1, hh0, hh1, c0, c1, z0, z1, by simp; omega, by simp; omega, fun l hl => (k l hl).1⟩, fun l hl => (k l hl).2⟩))
/-! ### stands -/
structure Stand where
  x : Int
  y : Int
  o : Int
def Stand.enc (s : Stand) : PyData := .tuple [.int s.x, .int s.y, .int s.o]
structure Stand.Ok (t : Net) (s : Stand) : Prop where
  x0 : 0 ≤ s.x
  x1 : s.x ≤ t.w - 1
  y0 : 0 ≤ s.y
  y1 : s.y ≤ t.h - 1
  o0 : -t.c ≤ s.o
  o1 : s.o ≤ t.c
theorem Stand.neat {t : Net} (h : t.Ok) {s : Stand} (k : s.Ok t) : Neat 200 1 s.enc := by
  have := h.w1; have := h.h1; have := h.c1; have := k.x0; have := k.x1; have := k.y0; have := k.y1; have := k.o0; have := k.o1
  exact (Neat.tuple (Neats.ints (ns := [s.x, s.y, s.o]) fun i hi => by simp at hi; omega)).mono (by simp) (Nat.le_refl _)
theorem r_is_place (t : Net) {x y : Int} (h0 : 0 ≤ x) (h1 : x ≤ t.w - 1) (h2 : 0 ≤ y) (h3 : y ≤ t.h - 1) : g_is_place [.d t.enc, .d (.tuple [.int x, .int y])] = M.pure (bl true) := by
  simp -implicitDefEqProofs [g_is_place, f_is_place, run_out, startE, E.ev, E.tst, Es.ev, Oe.prt, Oe.ok, It.ev, bind_nm, bind_tp, bind_nil, bind_cons, Sl.get, datas, setMany, wipeE, Ty.is, asInt, partOf, fdiv_int, mod_int, Net.enc, L2.atI, L2.ixN, r_is_within, isIn_int h0 h1, isIn_int h2 h3]
theorem r_is_stand (t : Net) {s : Stand} (h : s.Ok t) : g_is_stand_by [.d t.enc, .d s.enc] = M.pure (bl true) := by
  have g1 := r_is_place t h.x0 h.x1 h.y0 h.y1
  simp -implicitDefEqProofs only [Net.enc] at g1
  simp -implicitDefEqProofs [g_is_stand_by, f_is_stand_by, run_out, startE, E.ev, E.tst, Es.ev, Oe.prt, Oe.ok, It.ev, bind_nm, bind_tp, bind_nil, bind_cons, Sl.get, datas, setMany, wipeE, Ty.is, asInt, partOf, fdiv_int, mod_int, Net.enc, Stand.enc, L2.atI, L2.ixN, cutP, HT.sIx, g1, r_is_within, isIn_int h.o0 h.o1]
theorem r_need_stand (t : Net) {s : Stand} (h : s.Ok t) : g_need_stand [.d t.enc, .d s.enc] = M.pure (.d .none) := by
  simp -implicitDefEqProofs [g_need_stand, f_need_stand, run_out, startE, E.ev, E.tst, Es.ev, Oe.prt, Oe.ok, It.ev, bind_nm, bind_tp, bind_nil, bind_cons, Sl.get, datas, setMany, wipeE, Ty.is, asInt, partOf, fdiv_int, mod_int, r_is_stand t h]
/-! ### how far, what is heard -/
def farI (a b c d : Int) : Int := if absI (b - d) > absI (a - c) then absI (b - d) else absI (a - c)
theorem r_far (a b c d : Int) : g_far [.d (.tuple [.int a, .int b]), .d (.tuple [.int c, .int d])] = M.pure (.d (.int (farI a b c d))) := by
  simp -implicitDefEqProofs [g_far, f_far, run_out, startE, E.ev, E.tst, Es.ev, Oe.prt, Oe.ok, It.ev, bind_nm, bind_tp, bind_nil, bind_cons, Sl.get, datas, setMany, wipeE, Ty.is, asInt, partOf, fdiv_int, mod_int, L2.atI, L2.ixN, farI, absI]
theorem net_house {t : Net} {i : Nat} (hi : i < t.hs.length) : L2.atI (t.hs.map encH) (i : Int) = some (encH t.hs[i]) := by
  simp -implicitDefEqProofs [L2.atI, L2.ixN, hi]
theorem r_due_at {t : Net} (h : t.Ok) (s : Stand) {i : Nat} (hi : i < t.hs.length) {k : Int} (k0 : 0 ≤ k) (k1 : k ≤ 300) {px py : Int} (hp : place k t.hs[i] = .tuple [.int px, .int py]) :
    g_due_at [.d t.enc, .d s.enc, .d (.int i), .d (.int k)] = M.pure (.d (.int (k + farI px py s.x s.y + s.o))) := by
  have g1 := r_place_by (h.ok _ (List.getElem_mem hi)) k0 k1
  rw [hp] at g1
  simp -implicitDefEqProofs [g_due_at, f_due_at, run_out, startE, E.ev, E.tst, Es.ev, Oe.prt, Oe.ok, It.ev, bind_nm, bind_tp, bind_nil, bind_cons, Sl.get, datas, setMany, wipeE, Ty.is, asInt, partOf, fdiv_int, mod_int, Net.enc, Stand.enc, L2.atI, L2.ixN, hi, g1, cutP, HT.sIx, r_far]
/-! ### all stands, as the law makes them -/
def offs (t : Net) (x y : Int) : List Stand := (List.range (t.c + 1 - (0 - t.c)).toNat).map fun (k : Nat) => ⟨x, y, 0 - t.c + (k : Int)⟩
def rowOf (t : Net) (x : Int) : List Stand := (List.range (t.h - 0).toNat).flatMap fun (y : Nat) => offs t x y
def standsOf (t : Net) : List Stand := (List.range (t.w - 0).toNat).flatMap fun (x : Nat) => rowOf t x
theorem offs_len {t : Net} (h : t.Ok) (x y : Int) : (offs t x y).length = (2 * t.c + 1).toNat := by
  unfold offs
  rw [List.length_map, List.length_range]
  omega
theorem rowOf_len {t : Net} (h : t.Ok) (x : Int) : (rowOf t x).length = t.h.toNat * (2 * t.c + 1).toNat := by
  unfold rowOf
  rw [flatMap_len (f := fun (y : Nat) => offs t x (y : Int)) fun y _ => offs_len h x y, List.length_range, Int.sub_zero]
theorem standsOf_len {t : Net} (h : t.Ok) : (standsOf t).length = t.w.toNat * (t.h.toNat * (2 * t.c + 1).toNat) := by
  unfold standsOf
  rw [flatMap_len (f := fun (x : Nat) => rowOf t (x : Int)) fun x _ => rowOf_len h x, List.length_range, Int.sub_zero]
theorem mem_standsOf {t : Net} {s : Stand} : s ∈ standsOf t ↔ s.Ok t := by
  constructor
  · intro hs
    obtain ⟨x, hx, hs⟩ := List.mem_flatMap.mp hs
    obtain ⟨y, hy, hs⟩ := List.mem_flatMap.mp hs
    obtain ⟨k, hk, rfl⟩ := List.mem_map.mp hs
    have := List.mem_range.mp hx
    have := List.mem_range.mp hy
    have := List.mem_range.mp hk
    constructor <;> simp <;> omega
  · intro h
    have := h.x0; have := h.x1; have := h.y0; have := h.y1; have := h.o0; have := h.o1
    refine List.mem_flatMap.mpr ⟨s.x.toNat, List.mem_range.mpr (by omega), List.mem_flatMap.mpr ⟨s.y.toNat, List.mem_range.mpr (by omega), List.mem_map.mpr ⟨(s.o + t.c).toNat, List.mem_range.mpr (by omega), ?_⟩⟩⟩
    cases s
    simp at *
    omega
theorem stands_bounds {t : Net} (h : t.Ok) : 1 ≤ (standsOf t).length ∧ (standsOf t).length ≤ 3600 := by
  have := h.w0; have := h.w1; have := h.h0; have := h.h1; have := h.c0; have := h.c1
  rw [standsOf_len h]
  constructor
  · exact Nat.mul_pos (by omega) (Nat.mul_pos (by omega) (by omega))
  · exact Nat.le_trans (Nat.mul_le_mul (show t.w.toNat ≤ 12 by omega) (Nat.mul_le_mul (show t.h.toNat ≤ 12 by omega) (show (2 * t.c + 1).toNat ≤ 25 by omega))) (by decide)
theorem mem_rangeL {i : Int} {n : Nat} {x : D} (h : x ∈ rangeL i n) : ∃ k : Nat, k < n ∧ x = .d (.int (i + k)) := by
  unfold rangeL at h
  obtain ⟨k, hk, rfl⟩ := List.mem_map.mp h
  exact ⟨k, List.mem_range.mp hk, rfl⟩
theorem rangeL_eq (i : Int) (n : Nat) : rangeL i n = (List.range n).map fun (k : Nat) => D.d (.int (i + (k : Int))) := rfl

end Lw

set_option Elab.async false
set_option linter.all false
set_option maxRecDepth 100000
set_option maxHeartbeats 1000000
namespace Lw
open PySem Fb
def f_is_sign_by : Fn := ⟨2, 2, (.cons (.ifs (.or (.not (.isi (.var 1) .tuple)) (.cmp .ne (.blt .len (.cons (.var 1) .nil)) (.cst (.int 3)))) (.cons (.ret (.cst (.bool false))) .nil) .nil) (.cons (.ifs (.or (.not (.call "is_within" g_is_within (.cons (.ix (.var 1) (.cst (.int 0))) (.cons (.cst (.int 0)) (.cons (.bin .sub (.blt .len (.cons (.ix (.var 0) (.cst (.int 4))) .nil)) (.cst (.int 1))) .nil))))) (.not (.call "is_within" g_is_within (.cons (.ix (.var 1) (.cst (.int 1))) (.cons (.cst (.int 0)) (.cons (.glo "MOST_TICK" (.int 300)) .nil)))))) (.cons (.ret (.cst (.bool false))) .nil) .nil) (.cons (.ret (.and (.call "is_within" g_is_within (.cons (.ix (.var 1) (.cst (.int 2))) (.cons (.neg (.glo "MOST_HEARD" (.int 3000))) (.cons (.glo "MOST_HEARD" (.int 3000)) .nil)))) (.cmp .isnot (.call "place_by" g_place_by (.cons (.ix (.ix (.var 0) (.cst (.int 4))) (.ix (.var 1) (.cst (.int 0)))) (.cons (.ix (.var 1) (.cst (.int 1))) .nil))) (.cst (.none))))) .nil)))⟩
def g_is_sign_by : List D → M D := f_is_sign_by.run
def f_need_sign : Fn := ⟨2, 2, (.cons (.ifs (.not (.call "is_sign_by" g_is_sign_by (.cons (.var 0) (.cons (.var 1) .nil)))) (.cons (.raise "NoSign" "no sign") .nil) .nil) .nil)⟩
def g_need_sign : List D → M D := f_need_sign.run
def f_slip_by : Fn := ⟨3, 3, (.cons (.ret (.bin .sub (.ix (.var 2) (.cst (.int 2))) (.call "due_at" g_due_at (.cons (.var 0) (.cons (.var 1) (.cons (.ix (.var 2) (.cst (.int 0))) (.cons (.ix (.var 2) (.cst (.int 1))) .nil))))))) .nil)⟩
def g_slip_by : List D → M D := f_slip_by.run
def f_fits_by : Fn := ⟨3, 3, (.cons (.ret (.chn .le .le (.neg (.ix (.var 0) (.cst (.int 3)))) (.call "slip_by" g_slip_by (.cons (.var 0) (.cons (.var 1) (.cons (.var 2) .nil)))) (.ix (.var 0) (.cst (.int 3))))) .nil)⟩
def g_fits_by : List D → M D := f_fits_by.run
def f__law_slip : Fn := ⟨3, 6, (.cons (.set (.tp (.cons (.nm 3) (.cons (.nm 4) (.cons (.nm 5) .nil)))) (.var 2)) (.cons (.ret (.bin .sub (.bin .sub (.bin .sub (.var 5) (.var 4)) (.call "_law_far" g_far (.cons (.call "_law_place_at" g_place_by (.cons (.ix (.ix (.var 0) (.cst (.int 4))) (.var 3)) (.cons (.var 4) .nil))) (.cons (.cut (.var 1) .no (.yes (.cst (.int 2)))) .nil)))) (.ix (.var 1) (.cst (.int 2))))) .nil))⟩
def g__law_slip : List D → M D := f__law_slip.run
def f__law_fits : Fn := ⟨3, 3, (.cons (.ret (.cmp .le (.blt .abs (.cons (.call "_law_slip" g__law_slip (.cons (.var 0) (.cons (.var 1) (.cons (.var 2) .nil)))) .nil)) (.ix (.var 0) (.cst (.int 3))))) .nil)⟩
def g__law_fits : List D → M D := f__law_fits.run
def f__law_heard : Fn := ⟨4, 7, (.cons (.set (.nm 4) (.call "_law_draw" g__law_draw (.cons (.var 0) (.cons (.blt .len (.cons (.ix (.var 1) (.cst (.int 4))) .nil)) .nil)))) (.cons (.set (.nm 5) (.bin .add (.ix (.ix (.ix (.ix (.var 1) (.cst (.int 4))) (.var 4)) (.cst (.int 0))) (.cst (.int 0))) (.call "_law_draw" g__law_draw (.cons (.var 0) (.cons (.cst (.int 12)) .nil))))) (.cons (.set (.nm 6) (.bin .add (.bin .sub (.call "_law_draw" g__law_draw (.cons (.var 0) (.cons (.bin .add (.bin .mul (.cst (.int 2)) (.ix (.var 1) (.cst (.int 3)))) (.cst (.int 1))) .nil))) (.ix (.var 1) (.cst (.int 3)))) (.var 3))) (.cons (.ret (.tup (.cons (.var 4) (.cons (.var 5) (.cons (.bin .add (.bin .add (.bin .add (.var 5) (.call "_law_far" g_far (.cons (.call "_law_place_at" g_place_by (.cons (.ix (.ix (.var 1) (.cst (.int 4))) (.var 4)) (.cons (.var 5) .nil))) (.cons (.cut (.var 2) .no (.yes (.cst (.int 2)))) .nil)))) (.ix (.var 2) (.cst (.int 2)))) (.var 6)) .nil))))) .nil))))⟩
def g__law_heard : List D → M D := f__law_heard.run
def f__law_signs_l1 : Fb.Ss := (.cons (.set (.nm 7) (.bin .mul (.call "_law_pick" g__law_pick (.cons (.var 0) (.cons (.lst (.cons (.cst (.int 0)) (.cons (.cst (.int 0)) (.cons (.cst (.int 0)) (.cons (.cst (.int 3)) (.cons (.neg (.cst (.int 4))) (.cons (.cst (.int 7)) .nil))))))) .nil))) (.var 3))) (.cons (.app 6 (.call "_law_heard" g__law_heard (.cons (.var 0) (.cons (.var 1) (.cons (.var 5) (.cons (.var 7) .nil)))))) .nil))
def f__law_signs : Fn := ⟨4, 8, (.cons (.parO [5, 6] (.cons (.call "_law_pick" g__law_pick (.cons (.var 0) (.cons (.call "_law_stands" g__law_stands (.cons (.var 1) .nil)) .nil))) (.cons (.lst .nil) .nil)) [false, true]) (.cons (.for_ (.rng1 (.call "_law_draw" g__law_draw (.cons (.var 0) (.cons (.bin .add (.var 2) (.cst (.int 1))) .nil)))) (.nm 4) f__law_signs_l1) (.cons (.frz 6) (.cons (.ret (.blt .tuple (.cons (.var 6) .nil))) .nil))))⟩
def g__law_signs : List D → M D := f__law_signs.run
def f_are_signs_by_c1 : Fb.E := (.call "is_sign_by" g_is_sign_by (.cons (.var 0) (.cons (.var 2) .nil)))
def f_are_signs_by : Fn := ⟨2, 3, (.cons (.ifs (.or (.not (.isi (.var 1) .tuple)) (.cmp .gt (.blt .len (.cons (.var 1) .nil)) (.glo "MOST_SIGNS_lots" (.int 12)))) (.cons (.ret (.cst (.bool false))) .nil) .nil) (.cons (.ret (.blt .all (.cons (.lc [2] (.gen [2] (.seq (.var 1)) (.nm 2) .no (.fin f_are_signs_by_c1))) .nil))) .nil))⟩
def g_are_signs_by : List D → M D := f_are_signs_by.run
def f_need_signs : Fn := ⟨2, 2, (.cons (.expr (.call "need_net" g_need_net (.cons (.var 0) .nil))) (.cons (.ifs (.not (.call "are_signs_by" g_are_signs_by (.cons (.var 0) (.cons (.var 1) .nil)))) (.cons (.raise "NoSigns" "no signs of the net") .nil) .nil) .nil))⟩
def g_need_signs : List D → M D := f_need_signs.run
def f_fits_all_c1 : Fb.E := (.call "fits_by" g_fits_by (.cons (.var 0) (.cons (.var 2) (.cons (.var 3) .nil))))
def f_fits_all : Fn := ⟨3, 4, (.cons (.ret (.blt .all (.cons (.lc [3] (.gen [3] (.seq (.var 1)) (.nm 3) .no (.fin f_fits_all_c1))) .nil))) .nil)⟩
def g_fits_all : List D → M D := f_fits_all.run
def f__law_lot_c1 : Fb.E := (.var 4)
def f__law_lot_d1 : Fb.E := (.not (.call "_law_fits" g__law_fits (.cons (.var 0) (.cons (.var 3) (.cons (.var 4) .nil)))))
def f__law_lot_l1 : Fb.Ss := (.cons (.ifs (.cmp .eq (.lc [4] (.gen [4] (.seq (.var 1)) (.nm 4) (.yes f__law_lot_d1) (.fin f__law_lot_c1))) (.lst .nil)) (.cons (.app 2 (.var 3)) .nil) .nil) .nil)
def f__law_lot : Fn := ⟨2, 5, (.cons (.own 2 (.lst .nil)) (.cons (.for_ (.seq (.call "_law_stands" g__law_stands (.cons (.var 0) .nil))) (.nm 3) f__law_lot_l1) (.cons (.frz 2) (.cons (.ret (.blt .tuple (.cons (.var 2) .nil))) .nil))))⟩
def g__law_lot : List D → M D := f__law_lot.run
/-! ### all stands -/
theorem map_eq {α β : Type} {f g : α → β} {l : List α} (h : ∀ a ∈ l, f a = g a) : l.map f = l.map g := List.map_congr_left h
theorem r_stands {t : Net} (h : t.Ok) : g__law_stands [.d t.enc] = M.pure (.d (.list ((standsOf t).map Stand.enc))) := by
  have w0 := h.w0
  have w1 := h.w1
  have h0 := h.h0
  have h1 := h.h1
  have c0 := h.c0
  have c1 := h.c1
  have x0 : ixP t.enc 0 = some (.int t.w) := rfl
  have x1 : ixP t.enc 1 = some (.int t.h) := rfl
  have x2 : ixP t.enc 2 = some (.int t.c) := rfl
  have inner : ∀ (x : Int) (l0 : List Stand) (y o : Sl), l0.length ≤ 4000 → ∃ yo : Sl × Sl,
      forB (.nm 3) f__law_stands_l1 (rangeL 0 (t.h - 0).toNat) [.v (.d t.enc), .v (.d (.list (l0.map Stand.enc))), .v (.d (.int x)), y, o] = M.pure (.nx [.v (.d t.enc), .v (.d (.list ((l0 ++ rowOf t x).map Stand.enc))), .v (.d (.int x)), yo.1, yo.2]) := fun x l0 y o hl => by
    have := forB_pre (t := .nm 3) (bd := f__law_stands_l1) (L := List.range (t.h - 0).toNat) (xs := rangeL 0 (t.h - 0).toNat) (enc := fun (k : Nat) => D.d (.int (0 + (k : Int)))) (s := l0)
      (mk := fun l (b : Sl × Sl) => [.v (.d t.enc), .v (.d (.list (l.map Stand.enc))), .v (.d (.int x)), b.1, b.2]) (f := fun l (y : Nat) => l ++ offs t x y) rfl (fun pre a post b e => ?_) (y, o)
    · rw [foldl_app] at this
      exact this
    · have hp : pre.length ≤ 12 := by
        have := congrArg List.length e
        rw [List.length_range, List.length_append] at this
        omega
      rw [foldl_app]
      have hq : (pre.flatMap fun (y : Nat) => offs t x y).length ≤ 300 := by
        rw [flatMap_len (f := fun (y : Nat) => offs t x (y : Int)) fun y _ => offs_len h x y]
        exact Nat.le_trans (Nat.mul_le_mul hp (show (2 * t.c + 1).toNat ≤ 25 by omega)) (by decide)
      generalize (pre.flatMap fun (y : Nat) => offs t x y) = q at hq ⊢
      refine ⟨(.v (.d (.int a)), b.2), ?_⟩
      have lo : (offs t x a).length = (t.c + 1 - (0 - t.c)).toNat := by rw [offs_len h]; omega
      simp -implicitDefEqProofs [f__law_stands_l1, run_out, startE, E.ev, E.tst, Es.ev, Oe.prt, Oe.ok, It.ev, bind_nm, bind_tp, bind_nil, bind_cons, Sl.get, datas, setMany, wipeE, Ty.is, asInt, partOf, fdiv_int, mod_int, x2]
      rw [rangeM_ok (by omega) (by omega) (by omega) (by omega), M.pure_bind]
      rw [genB_all (L := offs t x a) (enc := fun s => D.d (.int s.o)) (g := Stand.enc) (by unfold offs rangeL; rw [List.map_map]; simp) fun s hs => ?_]
      · have f1 : fitsLine (offs t x a).length = true := fits_small (by omega)
        have f2 : fitsLine (l0.length + q.length + (offs t x a).length) = true := decide_eq_true (by omega)
        simp -implicitDefEqProofs [f1, f2, add_lst]
      · refine ⟨_, rfl, ?_⟩
        obtain ⟨k, hk, rfl⟩ := List.mem_map.mp hs
        simp -implicitDefEqProofs [f__law_stands_c1, run_out, startE, E.ev, E.tst, Es.ev, Oe.prt, Oe.ok, It.ev, bind_nm, bind_tp, bind_nil, bind_cons, Sl.get, datas, setMany, wipeE, Ty.is, asInt, partOf, fdiv_int, mod_int, Stand.enc]
  simp -implicitDefEqProofs [g__law_stands, f__law_stands, run_out, startE, E.ev, E.tst, Es.ev, Oe.prt, Oe.ok, It.ev, bind_nm, bind_tp, bind_nil, bind_cons, Sl.get, datas, setMany, wipeE, Ty.is, asInt, partOf, fdiv_int, mod_int, x0]
  rw [rangeM_ok (by decide) (by decide) (by omega) (by omega), M.pure_bind]
  obtain ⟨b, e⟩ := forB_pre (t := .nm 2) (bd := f__law_stands_l2) (L := List.range (t.w - 0).toNat) (xs := rangeL 0 (t.w - 0).toNat) (enc := fun (k : Nat) => D.d (.int (0 + (k : Int)))) (s := ([] : List Stand))
    (mk := fun l (b : Sl × Sl × Sl) => [.v (.d t.enc), .v (.d (.list (l.map Stand.enc))), b.1, b.2.1, b.2.2]) (f := fun l (x : Nat) => l ++ rowOf t x) rfl (fun pre a post b e => by
      have hp : pre.length ≤ 12 := by
        have := congrArg List.length e
        rw [List.length_range, List.length_append] at this
        omega
      rw [foldl_app]
      have hq : (pre.flatMap fun (x : Nat) => rowOf t x).length ≤ 3600 := by
        rw [flatMap_len (f := fun (x : Nat) => rowOf t (x : Int)) fun x _ => rowOf_len h x]
        exact Nat.le_trans (Nat.mul_le_mul hp (Nat.mul_le_mul (show t.h.toNat ≤ 12 by omega) (show (2 * t.c + 1).toNat ≤ 25 by omega))) (by decide)
      obtain ⟨yo, e2⟩ := inner (0 + (a : Int)) (([] : List Stand) ++ pre.flatMap fun (x : Nat) => rowOf t x) b.2.1 b.2.2 (by simp at hq ⊢; omega)
      generalize (pre.flatMap fun (x : Nat) => rowOf t x) = q at hq e2 ⊢
      refine ⟨(.v (.d (.int (0 + (a : Int)))), yo.1, yo.2), ?_⟩
      simp at e2
      simp -implicitDefEqProofs [f__law_stands_l2, run_out, startE, E.ev, E.tst, Es.ev, Oe.prt, Oe.ok, It.ev, bind_nm, bind_tp, bind_nil, bind_cons, Sl.get, datas, setMany, wipeE, Ty.is, asInt, partOf, fdiv_int, mod_int, x1]
      rw [rangeM_ok (by decide) (by decide) (by omega) (by omega), M.pure_bind]
      simp at e2 ⊢
      rw [e2]
      simp) (.un, .un, .un)
  simp -implicitDefEqProofs only [List.map_nil, foldl_app, List.nil_append] at e
  rw [e]
  simp -implicitDefEqProofs [run_out, startE, E.ev, E.tst, Es.ev, Oe.prt, Oe.ok, It.ev, bind_nm, bind_tp, bind_nil, bind_cons, Sl.get, datas, setMany, wipeE, Ty.is, asInt, partOf, fdiv_int, mod_int, standsOf]

/-! ### signs -/
structure Sign where
  i : Nat
  k : Int
  g : Int
def Sign.enc (s : Sign) : PyData := .tuple [.int s.i, .int s.k, .int s.g]
structure Sign.Ok (t : Net) (s : Sign) : Prop where
  hi : s.i < t.hs.length
  k0 : 0 ≤ s.k
  k1 : s.k ≤ 300
  g0 : -3000 ≤ s.g
  g1 : s.g ≤ 3000
  hp : ∃ w ∈ t.hs[s.i], w.b ≤ s.k
theorem Sign.neat {t : Net} (h : t.Ok) {s : Sign} (k : s.Ok t) : Neat 200 1 s.enc := by
  have := h.l1; have := k.hi; have := k.k0; have := k.k1; have := k.g0; have := k.g1
  exact (Neat.tuple (Neats.ints (ns := [(s.i : Int), s.k, s.g]) fun i hi => by simp at hi; omega)).mono (by simp) (Nat.le_refl _)
/-- where a sign's house is -/
def spotX (t : Net) (i : Nat) (k : Int) : Int × Int := match place k (t.hs.getD i []) with
  | .tuple [.int x, .int y] => (x, y)
  | _ => (0, 0)
theorem spotX_eq {t : Net} (h : t.Ok) {i : Nat} (hi : i < t.hs.length) {k : Int} (k1 : k ≤ 300) (hp : ∃ w ∈ t.hs[i], w.b ≤ k) : place k t.hs[i] = .tuple [.int (spotX t i k).1, .int (spotX t i k).2] ∧ (spotX t i k).1.natAbs ≤ 3000 ∧ (spotX t i k).2.natAbs ≤ 3000 := by
  obtain ⟨px, py, e, b1, b2⟩ := place_some (h.ok _ (List.getElem_mem hi)) k1 hp
  have : spotX t i k = (px, py) := by
    unfold spotX
    rw [List.getD_eq_getElem?_getD, List.getElem?_eq_getElem hi, Option.getD_some, e]
  rw [this]
  exact ⟨e, b1, b2⟩
def farX (t : Net) (i : Nat) (k : Int) (s : Stand) : Int := farI (spotX t i k).1 (spotX t i k).2 s.x s.y
def slipX (t : Net) (s : Stand) (g : Sign) : Int := g.g - (g.k + farX t g.i g.k s + s.o)
def fitsX (t : Net) (s : Stand) (g : Sign) : Bool := decide (-t.s ≤ slipX t s g) && decide (slipX t s g ≤ t.s)
theorem farX_le {t : Net} (h : t.Ok) {i : Nat} (hi : i < t.hs.length) {k : Int} (k1 : k ≤ 300) (hp : ∃ w ∈ t.hs[i], w.b ≤ k) {s : Stand} (hs : s.Ok t) : 0 ≤ farX t i k s ∧ farX t i k s ≤ 3012 := by
  have ⟨_, b1, b2⟩ := spotX_eq h hi k1 hp
  have := h.w1; have := h.h1; have := hs.x0; have := hs.x1; have := hs.y0; have := hs.y1
  unfold farX farI
  rw [absI_abs, absI_abs]
  split <;> omega
theorem slipX_le {t : Net} (h : t.Ok) {s : Stand} (hs : s.Ok t) {g : Sign} (hg : g.Ok t) : (slipX t s g).natAbs ≤ 10000 := by
  have := farX_le h hg.hi hg.k1 hg.hp hs
  have := hg.k0; have := hg.k1; have := hg.g0; have := hg.g1; have := hs.o0; have := hs.o1; have := h.c1
  unfold slipX
  omega
theorem r_due {t : Net} (h : t.Ok) (s : Stand) {i : Nat} (hi : i < t.hs.length) {k : Int} (k0 : 0 ≤ k) (k1 : k ≤ 300) (hp : ∃ w ∈ t.hs[i], w.b ≤ k) :
    g_due_at [.d t.enc, .d s.enc, .d (.int i), .d (.int k)] = M.pure (.d (.int (k + farX t i k s + s.o))) := r_due_at h s hi k0 k1 (spotX_eq h hi k1 hp).1
theorem is_tup_none (xs : List PyData) : Cm.run .isnot (.tuple xs) .none = some true := rfl
theorem is_tup_none' (xs : List PyData) : Cm.run .is (.tuple xs) .none = some false := rfl
theorem r_is_sign {t : Net} (h : t.Ok) {g : Sign} (k : g.Ok t) : g_is_sign_by [.d t.enc, .d g.enc] = M.pure (bl true) := by
  have hi := k.hi
  have e1 : isIn 0 ((t.hs.length : Int) - 1) (.int g.i) = true := isIn_int (by omega) (by omega)
  have g1 := r_place_by (h.ok _ (List.getElem_mem hi)) k.k0 k.k1
  rw [(spotX_eq h hi k.k1 k.hp).1] at g1
  simp -implicitDefEqProofs [g_is_sign_by, f_is_sign_by, run_out, startE, E.ev, E.tst, Es.ev, Oe.prt, Oe.ok, It.ev, bind_nm, bind_tp, bind_nil, bind_cons, Sl.get, datas, setMany, wipeE, Ty.is, asInt, partOf, fdiv_int, mod_int, Net.enc, Sign.enc, L2.atI, L2.ixN, hi, r_is_within, e1, isIn_int k.k0 k.k1, isIn_int k.g0 k.g1, g1, is_tup_none]
theorem r_need_sign {t : Net} (h : t.Ok) {g : Sign} (k : g.Ok t) : g_need_sign [.d t.enc, .d g.enc] = M.pure (.d .none) := by
  simp -implicitDefEqProofs [g_need_sign, f_need_sign, run_out, startE, E.ev, E.tst, Es.ev, Oe.prt, Oe.ok, It.ev, bind_nm, bind_tp, bind_nil, bind_cons, Sl.get, datas, setMany, wipeE, Ty.is, asInt, partOf, fdiv_int, mod_int, r_is_sign h k]
theorem r_slip_by {t : Net} (h : t.Ok) (s : Stand) {g : Sign} (k : g.Ok t) : g_slip_by [.d t.enc, .d s.enc, .d g.enc] = M.pure (.d (.int (slipX t s g))) := by
  simp -implicitDefEqProofs [g_slip_by, f_slip_by, run_out, startE, E.ev, E.tst, Es.ev, Oe.prt, Oe.ok, It.ev, bind_nm, bind_tp, bind_nil, bind_cons, Sl.get, datas, setMany, wipeE, Ty.is, asInt, partOf, fdiv_int, mod_int, Sign.enc, L2.atI, L2.ixN, r_due h s k.hi k.k0 k.k1 k.hp, slipX]
theorem r_fits_by {t : Net} (h : t.Ok) (s : Stand) {g : Sign} (k : g.Ok t) : g_fits_by [.d t.enc, .d s.enc, .d g.enc] = M.pure (bl (fitsX t s g)) := by
  have x3 : ixP t.enc 3 = some (.int t.s) := rfl
  simp -implicitDefEqProofs [g_fits_by, f_fits_by, run_out, startE, E.ev, E.tst, Es.ev, Oe.prt, Oe.ok, It.ev, bind_nm, bind_tp, bind_nil, bind_cons, Sl.get, datas, setMany, wipeE, Ty.is, asInt, partOf, fdiv_int, mod_int, x3, r_slip_by h s k, fitsX]
  split <;> simp -implicitDefEqProofs [*]

end Lw

set_option Elab.async false
set_option linter.all false
set_option maxRecDepth 100000
set_option maxHeartbeats 1000000
namespace Lw
open PySem Fb
theorem slip_eq (t : Net) (s : Stand) (g : Sign) : g.g - g.k - farX t g.i g.k s - s.o = slipX t s g := by unfold slipX; omega
theorem enc_ix {t : Net} : ixP t.enc 4 = some (.tuple (t.hs.map encH)) := rfl
theorem enc_ix3 {t : Net} : ixP t.enc 3 = some (.int t.s) := rfl
theorem st_ix2 {s : Stand} : ixP s.enc 2 = some (.int s.o) := rfl
theorem st_cut {s : Stand} : cutP s.enc none (some 2) = some (.tuple [.int s.x, .int s.y]) := rfl
theorem law_far_eq (t : Net) (i : Nat) (k : Int) (s : Stand) : farI (spotX t i k).1 (spotX t i k).2 s.x s.y = farX t i k s := rfl
theorem r_law_slip {t : Net} (h : t.Ok) (s : Stand) {g : Sign} (k : g.Ok t) : g__law_slip [.d t.enc, .d s.enc, .d g.enc] = M.pure (.d (.int (slipX t s g))) := by
  have g1 := r_place_by (h.ok _ (List.getElem_mem k.hi)) k.k0 k.k1
  rw [(spotX_eq h k.hi k.k1 k.hp).1] at g1
  simp -implicitDefEqProofs [g__law_slip, f__law_slip, run_out, startE, E.ev, E.tst, Es.ev, Oe.prt, Oe.ok, It.ev, bind_nm, bind_tp, bind_nil, bind_cons, Sl.get, datas, setMany, wipeE, Ty.is, asInt, partOf, fdiv_int, mod_int, Sign.enc, enc_ix, net_house k.hi, g1, st_cut, st_ix2, r_far, law_far_eq, slip_eq]
theorem r_law_fits {t : Net} (h : t.Ok) (s : Stand) {g : Sign} (k : g.Ok t) : g__law_fits [.d t.enc, .d s.enc, .d g.enc] = M.pure (bl (fitsX t s g)) := by
  simp -implicitDefEqProofs [g__law_fits, f__law_fits, run_out, startE, E.ev, E.tst, Es.ev, Oe.prt, Oe.ok, It.ev, bind_nm, bind_tp, bind_nil, bind_cons, Sl.get, datas, setMany, wipeE, Ty.is, asInt, partOf, fdiv_int, mod_int, r_law_slip h s k, enc_ix3]
  congr 3
  unfold fitsX
  have := h.s0
  by_cases a : -t.s ≤ slipX t s g <;> by_cases b : slipX t s g ≤ t.s <;> simp -implicitDefEqProofs [a, b] <;> split <;> omega

end Lw

set_option Elab.async false
set_option linter.all false
set_option maxRecDepth 100000
set_option maxHeartbeats 1000000
namespace Lw
open PySem Fb
def encG (gs : List Sign) : PyData := .tuple (gs.map Sign.enc)
structure Signs (t : Net) (gs : List Sign) : Prop where
  l : gs.length ≤ 12
  ok : ∀ g ∈ gs, g.Ok t
theorem Signs.neat {t : Net} (h : t.Ok) {gs : List Sign} (k : Signs t gs) : Neat 2500 2 (encG gs) := by
  refine (Neat.tuple (Neats.all (w := 200) (d := 1) fun p hp => ?_)).mono ?_ (Nat.le_refl _)
  · obtain ⟨g, hg, rfl⟩ := List.mem_map.mp hp
    exact Sign.neat h (k.ok g hg)
  · have := k.l
    rw [List.length_map]
    omega
theorem r_are_signs {t : Net} (h : t.Ok) {gs : List Sign} (k : Signs t gs) : g_are_signs_by [.d t.enc, .d (encG gs)] = M.pure (bl true) := by
  have l1 : (gs.length : Int) ≤ 12 := by have := k.l; omega
  have l2 : ¬ (12 < (gs.length : Int)) := by omega
  have f1 : fitsLine gs.length = true := fits_small (by have := k.l; omega)
  simp -implicitDefEqProofs [g_are_signs_by, f_are_signs_by, run_out, startE, E.ev, E.tst, Es.ev, Oe.prt, Oe.ok, It.ev, bind_nm, bind_tp, bind_nil, bind_cons, Sl.get, datas, setMany, wipeE, Ty.is, asInt, partOf, fdiv_int, mod_int, encG, l1, l2]
  rw [genB_all (L := gs) (enc := fun g => D.d g.enc) (g := fun _ => .bool true) (by rfl) fun g hg => ⟨_, rfl, by simp -implicitDefEqProofs [f_are_signs_by_c1, run_out, startE, E.ev, E.tst, Es.ev, Oe.prt, Oe.ok, It.ev, bind_nm, bind_tp, bind_nil, bind_cons, Sl.get, datas, setMany, wipeE, Ty.is, asInt, partOf, fdiv_int, mod_int, r_is_sign h (k.ok g hg)]⟩]
  simp -implicitDefEqProofs [f1, all_true, all_tt]
theorem r_need_signs {t : Net} (h : t.Ok) {gs : List Sign} (k : Signs t gs) : g_need_signs [.d t.enc, .d (encG gs)] = M.pure (.d .none) := by
  simp -implicitDefEqProofs [g_need_signs, f_need_signs, run_out, startE, E.ev, E.tst, Es.ev, Oe.prt, Oe.ok, It.ev, bind_nm, bind_tp, bind_nil, bind_cons, Sl.get, datas, setMany, wipeE, Ty.is, asInt, partOf, fdiv_int, mod_int, r_need_net h, r_are_signs h k]
theorem r_fits_all {t : Net} (h : t.Ok) {gs : List Sign} (k : Signs t gs) (s : Stand) : g_fits_all [.d t.enc, .d (encG gs), .d s.enc] = M.pure (bl (gs.all (fitsX t s))) := by
  have f1 : fitsLine gs.length = true := fits_small (by have := k.l; omega)
  simp -implicitDefEqProofs [g_fits_all, f_fits_all, run_out, startE, E.ev, E.tst, Es.ev, Oe.prt, Oe.ok, It.ev, bind_nm, bind_tp, bind_nil, bind_cons, Sl.get, datas, setMany, wipeE, Ty.is, asInt, partOf, fdiv_int, mod_int, encG]
  rw [genB_all (L := gs) (enc := fun g => D.d g.enc) (g := fun g => .bool (fitsX t s g)) (by rfl) fun g hg => ⟨_, rfl, by simp -implicitDefEqProofs [f_fits_all_c1, run_out, startE, E.ev, E.tst, Es.ev, Oe.prt, Oe.ok, It.ev, bind_nm, bind_tp, bind_nil, bind_cons, Sl.get, datas, setMany, wipeE, Ty.is, asInt, partOf, fdiv_int, mod_int, r_fits_by h s (k.ok g hg)]⟩]
  simp -implicitDefEqProofs [f1, boolsOf_all]
/-! ### signs that the law draws -/
theorem place_sm {hs : List Way} (sm : ∀ w ∈ hs, w.Sm) {t : Int} (h1 : t ≤ 60) (hb : ∃ w ∈ hs, w.b ≤ t) : ∃ px py : Int, place t hs = .tuple [.int px, .int py] ∧ px.natAbs ≤ 200 ∧ py.natAbs ≤ 200 := by
  obtain ⟨v, hv, hv2⟩ := hb
  unfold place
  rw [last_place]
  cases q : (hs.filter fun w => decide (w.b ≤ t)).getLast? with
  | none =>
    have e := List.getLast?_eq_none_iff.mp q
    have : v ∈ hs.filter fun w => decide (w.b ≤ t) := List.mem_filter.mpr ⟨hv, by simpa using hv2⟩
    rw [e] at this
    exact absurd this List.not_mem_nil
  | some w =>
    have hw := List.mem_filter.mp (List.mem_of_getLast? q)
    have ok := sm w hw.1
    have hb : w.b ≤ t := by simpa using hw.2
    have := ok.b0; have := ok.x0; have := ok.x1; have := ok.y0; have := ok.y1
    have m : ∀ (a c : Int), 0 ≤ a → a ≤ 60 → -3 ≤ c → c ≤ 3 → (a * c).natAbs ≤ 180 := fun a c a0 a1 c0 c1 => by
      rw [Int.natAbs_mul]
      exact Nat.le_trans (Nat.mul_le_mul (show a.natAbs ≤ 60 by omega) (show c.natAbs ≤ 3 by omega)) (by decide)
    have := ok.p0; have := ok.p1; have := ok.q0; have := ok.q1
    have m1 := m (t - w.b) w.p (by omega) (by omega) (by omega) (by omega)
    have m2 := m (t - w.b) w.q (by omega) (by omega) (by omega) (by omega)
    exact ⟨_, _, rfl, by omega, by omega⟩
theorem far_sm {t : Net} {most : Int} (h : t.Sm most) {i : Nat} (hi : i < t.hs.length) {k : Int} (k1 : k ≤ 60) (hp : ∃ w ∈ t.hs[i], w.b ≤ k) {s : Stand} (hs : s.Ok t) : 0 ≤ farX t i k s ∧ farX t i k s ≤ 220 := by
  obtain ⟨px, py, e, b1, b2⟩ := place_sm (h.sm _ (List.getElem_mem hi)) k1 hp
  have e2 := (spotX_eq h.ok hi (by omega) hp).1
  rw [e] at e2
  simp at e2
  have := h.ok.w1; have := h.ok.h1; have := hs.x0; have := hs.x1; have := hs.y0; have := hs.y1
  unfold farX farI
  rw [← e2.1, ← e2.2, absI_abs, absI_abs]
  split <;> omega
theorem first_way {l : List Way} (h : House l) : ∃ w r, l = w :: r ∧ w.Ok := by
  cases l with
  | nil => exact absurd h.l0 (by simp)
  | cons w r => exact ⟨w, r, rfl, h.ok w List.mem_cons_self⟩
/-- as it was heard at a stand, so much beyond the slips -/
structure Heard (t : Net) (s : Stand) (b : Int) (g : Sign) : Prop where
  g0 : -500 ≤ g.g
  g1 : g.g ≤ 500
  k1 : g.k ≤ 60
  l0 : b - t.s ≤ slipX t s g
  l1 : slipX t s g ≤ b + t.s
theorem r_heard (r : Nat) {t : Net} {most : Int} (h : t.Sm most) {s : Stand} (hs : s.Ok t) {b : Int} (b0 : -20 ≤ b) (b1 : b ≤ 20) {st : Sto} (h0 : Pn r st) : Tri (g__law_heard [.ref r, .d t.enc, .d s.enc, .d (.int b)]) st fun v s' => Pn r s' ∧ ∃ g : Sign, v = .d g.enc ∧ g.Ok t ∧ Heard t s b g := by
  have l0 := h.ok.l0
  have l1 := h.ok.l1
  have s0 := h.ok.s0
  have s1 := h.ok.s1
  refine Tri.runH (f := f__law_heard) ⟨rfl, Nat.le_of_ble_eq_true rfl⟩ fun R0 up0 => ?_
  rw [show f__law_heard.ns = 7 from rfl]
  refine Tri.step fun R up => ?_
  simp -implicitDefEqProofs [run_out, startE, E.ev, E.tst, Es.ev, Oe.prt, Oe.ok, It.ev, bind_nm, bind_tp, bind_nil, bind_cons, Sl.get, datas, setMany, wipeE, Ty.is, asInt, partOf, fdiv_int, mod_int, enc_ix]
  refine (r_draw r t.hs.length (by omega) (by omega) _ h0).bind ?_
  rintro _ s1 ⟨h1, i1, rfl, a1, b1⟩
  try simp -implicitDefEqProofs [run_out, startE, E.ev, E.tst, Es.ev, Oe.prt, Oe.ok, It.ev, bind_nm, bind_tp, bind_nil, bind_cons, Sl.get, datas, setMany, wipeE, Ty.is, asInt, partOf, fdiv_int, mod_int]
  refine Tri.pure (up _ _ (Rest.nx ?_))
  obtain ⟨i, rfl⟩ := Int.eq_ofNat_of_zero_le a1
  have hi : i < t.hs.length := by omega
  obtain ⟨w, l, e, ok⟩ := first_way (h.ok.ok _ (List.getElem_mem hi))
  have wm : w ∈ t.hs[i] := by rw [e]; simp
  have sm := h.sm _ (List.getElem_mem hi) w wm
  have y0 : L2.atI (t.hs[i].map Way.enc) 0 = some w.enc := by rw [e]; simp -implicitDefEqProofs [L2.atI, L2.ixN]
  have z0 : ixP w.enc 0 = some (.int w.b) := rfl
  have := sm.b0; have := sm.b1
  have nh : L2.atI (t.hs.map encH) (i : Int) = some (encH t.hs[i]) := net_house hi
  refine Tri.step fun R up => ?_
  simp -implicitDefEqProofs [run_out, startE, E.ev, E.tst, Es.ev, Oe.prt, Oe.ok, It.ev, bind_nm, bind_tp, bind_nil, bind_cons, Sl.get, datas, setMany, wipeE, Ty.is, asInt, partOf, fdiv_int, mod_int, enc_ix, nh, encH, y0, z0]
  refine (r_draw r 12 (by omega) (by omega) _ h1).bind ?_
  rintro _ s2 ⟨h2, i2, rfl, a2, b2⟩
  try simp -implicitDefEqProofs [run_out, startE, E.ev, E.tst, Es.ev, Oe.prt, Oe.ok, It.ev, bind_nm, bind_tp, bind_nil, bind_cons, Sl.get, datas, setMany, wipeE, Ty.is, asInt, partOf, fdiv_int, mod_int]
  refine Tri.pure (up _ _ (Rest.nx ?_))
  have hp : ∃ v ∈ t.hs[i], v.b ≤ w.b + i2 := ⟨w, wm, by omega⟩
  have g1 := r_place_by (h.ok.ok _ (List.getElem_mem hi)) (t := w.b + i2) (by omega) (by omega)
  rw [(spotX_eq h.ok hi (by omega) hp).1] at g1
  have fs := far_sm h hi (k := w.b + i2) (by omega) hp hs
  have ff : fits64 t.s = true := fits64_of (by omega) (by omega)
  have o0 := hs.o0; have o1 := hs.o1; have c1 := h.ok.c1
  refine Tri.step fun R up => ?_
  simp -implicitDefEqProofs [run_out, startE, E.ev, E.tst, Es.ev, Oe.prt, Oe.ok, It.ev, bind_nm, bind_tp, bind_nil, bind_cons, Sl.get, datas, setMany, wipeE, Ty.is, asInt, partOf, fdiv_int, mod_int, enc_ix3, mul_int, ff, show fits64 2 = true from rfl]
  refine (r_draw r (2 * t.s + 1) (by omega) (by omega) _ h2).bind ?_
  rintro _ s3 ⟨h3, i3, rfl, a3, b3⟩
  try simp -implicitDefEqProofs [run_out, startE, E.ev, E.tst, Es.ev, Oe.prt, Oe.ok, It.ev, bind_nm, bind_tp, bind_nil, bind_cons, Sl.get, datas, setMany, wipeE, Ty.is, asInt, partOf, fdiv_int, mod_int]
  refine Tri.pure (up _ _ (Rest.nx ?_))
  refine Tri.stepL fun R up => ?_
  simp -implicitDefEqProofs [run_out, startE, E.ev, E.tst, Es.ev, Oe.prt, Oe.ok, It.ev, bind_nm, bind_tp, bind_nil, bind_cons, Sl.get, datas, setMany, wipeE, Ty.is, asInt, partOf, fdiv_int, mod_int, enc_ix, nh, g1, st_cut, st_ix2, r_far, law_far_eq]
  exact Tri.pure (up _ _ (up0 _ _ ⟨h3, ⟨i, w.b + i2, w.b + i2 + farX t i (w.b + i2) s + s.o + (i3 - t.s + b)⟩, rfl, ⟨hi, by simp -implicitDefEqProofs only []; omega, by simp -implicitDefEqProofs only []; omega, by simp -implicitDefEqProofs only []; omega, by simp -implicitDefEqProofs only []; omega, hp⟩, ⟨by simp -implicitDefEqProofs only []; omega, by simp -implicitDefEqProofs only []; omega, by simp -implicitDefEqProofs only []; omega, by simp -implicitDefEqProofs only [slipX]; omega, by simp -implicitDefEqProofs only [slipX]; omega⟩⟩))
theorem r_signs (r : Nat) {t : Net} {m0 : Int} (h : t.Sm m0) {most lies : Int} (m1 : 0 ≤ most) (m2 : most ≤ 12) (z0 : 0 ≤ lies) (z1 : lies ≤ 1) {st : Sto} (h0 : Pn r st) : Tri (g__law_signs [.ref r, .d t.enc, .d (.int most), .d (.int lies)]) st fun v s' => Pn r s' ∧ ∃ gs : List Sign, v = .d (encG gs) ∧ gs.length ≤ most ∧ Signs t gs := by
  have hb := stands_bounds h.ok
  refine Tri.runH (f := f__law_signs) ⟨rfl, Nat.le_of_ble_eq_true rfl⟩ fun R0 up0 => ?_
  rw [show f__law_signs.ns = 8 from rfl]
  refine Tri.step fun R up => ?_
  simp -implicitDefEqProofs [run_out, startE, E.ev, E.tst, Es.ev, Oe.prt, Oe.ok, It.ev, bind_nm, bind_tp, bind_nil, bind_cons, Sl.get, datas, setMany, wipeE, Ty.is, asInt, partOf, fdiv_int, mod_int, r_stands h.ok]
  refine (r_pick r ((standsOf t).map Stand.enc) (by simp; omega) (by simp; omega) st h0).bind ?_
  rintro _ s1 ⟨h1, p, hp, rfl⟩
  obtain ⟨s, hs, rfl⟩ := List.mem_map.mp hp
  replace hs := mem_standsOf.mp hs
  simp -implicitDefEqProofs [run_out, startE, E.ev, E.tst, Es.ev, Oe.prt, Oe.ok, It.ev, bind_nm, bind_tp, bind_nil, bind_cons, Sl.get, datas, setMany, wipeE, Ty.is, asInt, partOf, fdiv_int, mod_int, slotsOf, slotOf, putMany]
  refine Tri.pure (up _ _ (Rest.nx ?_))
  refine Tri.step fun R up => ?_
  try simp -implicitDefEqProofs [run_out, startE, E.ev, E.tst, Es.ev, Oe.prt, Oe.ok, It.ev, bind_nm, bind_tp, bind_nil, bind_cons, Sl.get, datas, setMany, wipeE, Ty.is, asInt, partOf, fdiv_int, mod_int]
  refine (r_draw r (most + 1) (by omega) (by omega) _ h1).bind ?_
  rintro _ s2 ⟨h2, i2, rfl, a2, b2⟩
  try simp -implicitDefEqProofs [run_out, startE, E.ev, E.tst, Es.ev, Oe.prt, Oe.ok, It.ev, bind_nm, bind_tp, bind_nil, bind_cons, Sl.get, datas, setMany, wipeE, Ty.is, asInt, partOf, fdiv_int, mod_int]
  rw [rangeM_ok (by omega) (by omega) (by omega) (by omega), M.pure_bind]
  have rl : (rangeL 0 (i2 - 0).toNat).length = i2.toNat := by simp -implicitDefEqProofs [rangeL]
  refine Tri.forN (I := fun i env s' => ∃ (gs : List Sign) (q4 q7 : Sl), env = [.v (.ref r), .v (.d t.enc), .v (.d (.int most)), .v (.d (.int lies)), q4, .v (.d s.enc), .own (gs.map Sign.enc), q7] ∧ gs.length = i ∧ (∀ g ∈ gs, g.Ok t) ∧ Pn r s') 0 ⟨[], _, _, rfl, rfl, fun _ h => absurd h List.not_mem_nil, h2⟩ ?_ ?_
  · rintro i hi env st ⟨gs, q4, q7, rfl, lg, ok, hp⟩
    rw [rl] at hi
    refine ⟨_, by simp -implicitDefEqProofs [run_out, startE, E.ev, E.tst, Es.ev, Oe.prt, Oe.ok, It.ev, bind_nm, bind_tp, bind_nil, bind_cons, Sl.get, datas, setMany, wipeE, Ty.is, asInt, partOf, fdiv_int, mod_int]; rfl, Tri.hide fun R up => ?_⟩
    refine Tri.step fun R2 up2 => ?_
    try simp -implicitDefEqProofs [run_out, startE, E.ev, E.tst, Es.ev, Oe.prt, Oe.ok, It.ev, bind_nm, bind_tp, bind_nil, bind_cons, Sl.get, datas, setMany, wipeE, Ty.is, asInt, partOf, fdiv_int, mod_int]
    refine (r_pick r [.int 0, .int 0, .int 0, .int 3, .int (-4), .int 7] (by decide) (by decide) st hp).bind ?_
    rintro _ s3 ⟨h3, p, hp, rfl⟩
    obtain ⟨z, rfl, c0, c1⟩ : ∃ z : Int, p = .int z ∧ -4 ≤ z ∧ z ≤ 7 := by
      simp at hp
      rcases hp with rfl | rfl | rfl | rfl <;> exact ⟨_, rfl, by decide, by decide⟩
    have ff : fits64 z = true := fits64_of (by omega) (by omega)
    simp -implicitDefEqProofs [run_out, startE, E.ev, E.tst, Es.ev, Oe.prt, Oe.ok, It.ev, bind_nm, bind_tp, bind_nil, bind_cons, Sl.get, datas, setMany, wipeE, Ty.is, asInt, partOf, fdiv_int, mod_int, mul_int, ff]
    refine Tri.pure (up2 _ _ (Rest.nx ?_))
    refine Tri.stepL fun R2 up2 => ?_
    try simp -implicitDefEqProofs [run_out, startE, E.ev, E.tst, Es.ev, Oe.prt, Oe.ok, It.ev, bind_nm, bind_tp, bind_nil, bind_cons, Sl.get, datas, setMany, wipeE, Ty.is, asInt, partOf, fdiv_int, mod_int]
    have zl : z * lies = 0 ∨ z * lies = z := by
      have : lies = 0 ∨ lies = 1 := by omega
      rcases this with rfl | rfl
      · left; omega
      · right; omega
    refine (r_heard r h hs (b := z * lies) (by omega) (by omega) h3).bind ?_
    rintro _ s4 ⟨h4, g, rfl, k, _⟩
    have fl : gs.length < 16777216 := by omega
    simp -implicitDefEqProofs [run_out, startE, E.ev, E.tst, Es.ev, Oe.prt, Oe.ok, It.ev, bind_nm, bind_tp, bind_nil, bind_cons, Sl.get, datas, setMany, wipeE, Ty.is, asInt, partOf, fdiv_int, mod_int, fl]
    refine Tri.pure (up2 _ _ (up _ _ ⟨gs ++ [g], _, _, by simp; exact ⟨rfl, rfl⟩, by simp; omega, fun v hv => ?_, h4⟩))
    rcases List.mem_append.mp hv with c | c
    · exact ok v c
    · rw [List.mem_singleton.mp c]; exact k
  · rintro env st ⟨gs, q4, q7, rfl, lg, ok, hp⟩
    rw [rl] at lg
    refine up _ _ (Rest.nx ?_)
    try simp -implicitDefEqProofs [run_out, startE, E.ev, E.tst, Es.ev, Oe.prt, Oe.ok, It.ev, bind_nm, bind_tp, bind_nil, bind_cons, Sl.get, datas, setMany, wipeE, Ty.is, asInt, partOf, fdiv_int, mod_int]
    exact Tri.pure (up0 _ _ ⟨hp, gs, rfl, by omega, by omega, ok⟩)
/-! ### the stands that fit all signs -/
theorem none_unfit {t : Net} {s : Stand} {gs : List Sign} : gs.filter (fun g => !fitsX t s g) = [] ↔ gs.all (fitsX t s) = true := by
  simp -implicitDefEqProofs [List.filter_eq_nil_iff]
def lotOf (t : Net) (gs : List Sign) : List Stand := (standsOf t).filter fun s => gs.all (fitsX t s)
theorem eqP_empty {w d : Nat} {xs : List PyData} (h : Neats w d xs) (hd : d ≤ 60) : eqP (.list xs) (.list []) = some xs.isEmpty := by
  have h1 := (Neat.list h).shaped (by omega)
  have h2 := (Neat.list (Neats.nil.mono (w' := 0) (d' := 0) (Nat.zero_le _) (Nat.zero_le _))).shaped (by omega)
  unfold eqP
  simp -implicitDefEqProofs only [h1, h2, Bool.and_self, if_true]
  cases xs with
  | nil => rfl
  | cons a r => simp -implicitDefEqProofs [PyData.eqv, PyData.eqvAll]
theorem Signs.neats {t : Net} (h : t.Ok) {gs : List Sign} (k : Signs t gs) (p : Sign → Bool) : Neats 2500 1 ((gs.filter p).map Sign.enc) := by
  refine (Neats.all (w := 200) (d := 1) fun p hp => ?_).mono ?_ (Nat.le_refl _)
  · obtain ⟨g, hg, rfl⟩ := List.mem_map.mp hp
    exact Sign.neat h (k.ok g (List.mem_filter.mp hg).1)
  · have := k.l
    have := List.length_filter_le p gs
    rw [List.length_map]
    omega
theorem foldl_filter {α : Type} {p : α → Bool} : ∀ (l acc : List α), l.foldl (fun a x => if p x = true then a ++ [x] else a) acc = acc ++ l.filter p
  | [], acc => by simp
  | x :: l, acc => by
    rw [List.foldl_cons, foldl_filter l, List.filter_cons]
    split <;> simp
theorem empty_iff {t : Net} {s : Stand} {gs : List Sign} : ((gs.filter fun g => !fitsX t s g).map Sign.enc).isEmpty = gs.all (fitsX t s) := by
  rw [List.isEmpty_map, Bool.eq_iff_iff, List.isEmpty_iff]
  exact none_unfit
theorem r_lotQ {t : Net} (h : t.Ok) {gs : List Sign} (k : Signs t gs) {q : PyData} (hq : seqP q = some (gs.map Sign.enc)) : g__law_lot [.d t.enc, .d q] = M.pure (.d (.tuple ((lotOf t gs).map Stand.enc))) := by
  have hb := stands_bounds h
  have f1 : ∀ p : Sign → Bool, fitsLine (gs.filter p).length = true := fun p => fits_small (by have := k.l; have := List.length_filter_le p gs; omega)
  simp -implicitDefEqProofs [g__law_lot, f__law_lot, run_out, startE, E.ev, E.tst, Es.ev, Oe.prt, Oe.ok, It.ev, bind_nm, bind_tp, bind_nil, bind_cons, Sl.get, datas, setMany, wipeE, Ty.is, asInt, partOf, fdiv_int, mod_int, r_stands h]
  obtain ⟨b, e⟩ := forB_pre (t := .nm 3) (bd := f__law_lot_l1) (L := standsOf t) (xs := (standsOf t).map (D.d ∘ Stand.enc)) (enc := fun s => D.d s.enc) (s := ([] : List Stand))
    (mk := fun l (b : Sl × Sl) => [.v (.d t.enc), .v (.d q), .own (l.map Stand.enc), b.1, b.2]) (f := fun l s => if gs.all (fitsX t s) = true then l ++ [s] else l) rfl (fun pre s post b e => by
      have hl : pre.length ≤ 3600 := by
        have := congrArg List.length e
        rw [List.length_append] at this
        omega
      rw [foldl_filter, List.nil_append]
      have hf : (pre.filter fun s => gs.all (fitsX t s)).length < 16777216 := by
        have := List.length_filter_le (fun s => gs.all (fitsX t s)) pre
        omega
      generalize (pre.filter fun s => gs.all (fitsX t s)) = l at hf ⊢
      refine ⟨(.v (.d s.enc), b.2), ?_⟩
      have hg : genB [4] (.nm 4) (.yes f__law_lot_d1) (.fin f__law_lot_c1) [.v (.d t.enc), .v (.d q), .own (l.map Stand.enc), .v (.d s.enc), b.2] (gs.map (D.d ∘ Sign.enc)) = M.pure ((gs.filter fun g => !fitsX t s g).map Sign.enc) :=
        genB_map (enc := fun g => D.d g.enc) rfl fun g hg => ⟨_, rfl, by simp -implicitDefEqProofs [f__law_lot_d1, run_out, startE, E.ev, E.tst, Es.ev, Oe.prt, Oe.ok, It.ev, bind_nm, bind_tp, bind_nil, bind_cons, Sl.get, datas, setMany, wipeE, Ty.is, asInt, partOf, fdiv_int, mod_int, r_law_fits h s (k.ok g hg)], fun _ => by simp -implicitDefEqProofs [f__law_lot_c1, run_out, startE, E.ev, E.tst, Es.ev, Oe.prt, Oe.ok, It.ev, bind_nm, bind_tp, bind_nil, bind_cons, Sl.get, datas, setMany, wipeE, Ty.is, asInt, partOf, fdiv_int, mod_int]⟩
      have f2 := f1 fun g => !fitsX t s g
      have eq := eqP_empty (k.neats h fun g => !fitsX t s g) (by decide)
      rw [empty_iff] at eq
      by_cases c : gs.all (fitsX t s) = true
      · rw [c] at eq
        simp -implicitDefEqProofs [f__law_lot_l1, run_out, startE, E.ev, E.tst, Es.ev, Oe.prt, Oe.ok, It.ev, bind_nm, bind_tp, bind_nil, bind_cons, Sl.get, datas, setMany, wipeE, Ty.is, asInt, partOf, fdiv_int, mod_int, hq, hg, f2, eq, hf, c]
      · rw [Bool.not_eq_true] at c
        rw [c] at eq
        simp -implicitDefEqProofs [f__law_lot_l1, run_out, startE, E.ev, E.tst, Es.ev, Oe.prt, Oe.ok, It.ev, bind_nm, bind_tp, bind_nil, bind_cons, Sl.get, datas, setMany, wipeE, Ty.is, asInt, partOf, fdiv_int, mod_int, hq, hg, f2, eq, c]) (.un, .un)
  simp -implicitDefEqProofs only [List.map_nil, foldl_filter, List.nil_append] at e
  rw [e]
  simp -implicitDefEqProofs [run_out, startE, E.ev, E.tst, Es.ev, Oe.prt, Oe.ok, It.ev, bind_nm, bind_tp, bind_nil, bind_cons, Sl.get, datas, setMany, wipeE, Ty.is, asInt, partOf, fdiv_int, mod_int, lotOf]
theorem r_lot {t : Net} (h : t.Ok) {gs : List Sign} (k : Signs t gs) : g__law_lot [.d t.enc, .d (encG gs)] = M.pure (.d (.tuple ((lotOf t gs).map Stand.enc))) := r_lotQ h k rfl
theorem r_lotL {t : Net} (h : t.Ok) {gs : List Sign} (k : Signs t gs) : g__law_lot [.d t.enc, .d (.list (gs.map Sign.enc))] = M.pure (.d (.tuple ((lotOf t gs).map Stand.enc))) := r_lotQ h k rfl

end Lw

set_option Elab.async false
set_option linter.all false
set_option maxRecDepth 100000
set_option maxHeartbeats 1000000
namespace Lw
open PySem Fb
def f_all_stands_c1 : Fb.E := (.tup (.cons (.var 2) (.cons (.var 3) (.cons (.var 4) .nil))))
def f_all_stands : Fn := ⟨1, 5, (.cons (.set (.nm 1) (.lrg (.neg (.ix (.var 0) (.cst (.int 2)))) (.bin .add (.ix (.var 0) (.cst (.int 2))) (.cst (.int 1))))) (.cons (.ret (.blt .tuple (.cons (.lc [2, 3, 4] (.gen [2, 3, 4] (.rng1 (.ix (.var 0) (.cst (.int 0)))) (.nm 2) .no (.gen [3, 4] (.rng1 (.ix (.var 0) (.cst (.int 1)))) (.nm 3) .no (.gen [4] (.seq (.var 1)) (.nm 4) .no (.fin f_all_stands_c1))))) .nil))) .nil))⟩
def g_all_stands : List D → M D := f_all_stands.run
def f_lets_c1 : Fb.E := (.var 2)
def f_lets_d1 : Fb.E := (.call "fits_by" g_fits_by (.cons (.var 0) (.cons (.var 2) (.cons (.var 1) .nil))))
def f_lets : Fn := ⟨2, 3, (.cons (.expr (.call "need_net" g_need_net (.cons (.var 0) .nil))) (.cons (.expr (.call "need_sign" g_need_sign (.cons (.var 0) (.cons (.var 1) .nil)))) (.cons (.ret (.blt .tuple (.cons (.lc [2] (.gen [2] (.seq (.call "all_stands" g_all_stands (.cons (.var 0) .nil))) (.nm 2) (.yes f_lets_d1) (.fin f_lets_c1))) .nil))) .nil)))⟩
def g_lets : List D → M D := f_lets.run
def f_lot_by_c1 : Fb.E := (.var 2)
def f_lot_by_d1 : Fb.E := (.call "fits_all" g_fits_all (.cons (.var 0) (.cons (.var 1) (.cons (.var 2) .nil))))
def f_lot_by : Fn := ⟨2, 3, (.cons (.ret (.blt .tuple (.cons (.lc [2] (.gen [2] (.seq (.call "all_stands" g_all_stands (.cons (.var 0) .nil))) (.nm 2) (.yes f_lot_by_d1) (.fin f_lot_by_c1))) .nil))) .nil)⟩
def g_lot_by : List D → M D := f_lot_by.run
def f_lot : Fn := ⟨2, 2, (.cons (.expr (.call "need_signs" g_need_signs (.cons (.var 0) (.cons (.var 1) .nil)))) (.cons (.ret (.call "lot_by" g_lot_by (.cons (.var 0) (.cons (.var 1) .nil)))) .nil))⟩
def g_lot : List D → M D := f_lot.run
theorem r_all_stands {t : Net} (h : t.Ok) : g_all_stands [.d t.enc] = M.pure (.d (.tuple ((standsOf t).map Stand.enc))) := by
  have w0 := h.w0
  have w1 := h.w1
  have h0 := h.h0
  have h1 := h.h1
  have c0 := h.c0
  have c1 := h.c1
  have x0 : ixP t.enc 0 = some (.int t.w) := rfl
  have x1 : ixP t.enc 1 = some (.int t.h) := rfl
  have x2 : ixP t.enc 2 = some (.int t.c) := rfl
  have hb := stands_bounds h
  have f1 : fitsLine (standsOf t).length = true := decide_eq_true (by omega)
  have hr : rangeP (-t.c) (t.c + 1 - -t.c).toNat = (List.range (t.c + 1 - (0 - t.c)).toNat).map fun (k : Nat) => .int (0 - t.c + (k : Int)) := by
    unfold rangeP
    rw [Int.zero_sub]
  simp -implicitDefEqProofs [g_all_stands, f_all_stands, run_out, startE, E.ev, E.tst, Es.ev, Oe.prt, Oe.ok, It.ev, bind_nm, bind_tp, bind_nil, bind_cons, Sl.get, datas, setMany, wipeE, Ty.is, asInt, partOf, fdiv_int, mod_int, x0, x2]
  rw [lrgM_ok (by omega) (by omega) (by omega) (by omega), M.pure_bind]
  simp -implicitDefEqProofs [run_out, startE, E.ev, E.tst, Es.ev, Oe.prt, Oe.ok, It.ev, bind_nm, bind_tp, bind_nil, bind_cons, Sl.get, datas, setMany, wipeE, Ty.is, asInt, partOf, fdiv_int, mod_int, x0, hr]
  rw [rangeM_ok (by decide) (by decide) (by omega) (by omega), M.pure_bind]
  rw [genB_flat (L := List.range (t.w - 0).toNat) (enc := fun (k : Nat) => D.d (.int (0 + (k : Int)))) (f := fun (x : Nat) => (rowOf t x).map Stand.enc) (by rfl) fun x hx => ⟨_, by rfl, ?_⟩]
  · rw [M.pure_bind]
    simp -implicitDefEqProofs only [standsOf, List.map_flatMap] at f1 ⊢
    have e : (List.flatMap (fun (a : Nat) => List.map Stand.enc (rowOf t a)) (List.range (t.w - 0).toNat)).length = (List.flatMap (fun (x : Nat) => rowOf t x) (List.range (t.w - 0).toNat)).length := by
      rw [← List.map_flatMap, List.length_map]
    rw [e, if_pos f1]
    simp
  · simp -implicitDefEqProofs [run_out, startE, E.ev, E.tst, Es.ev, Oe.prt, Oe.ok, It.ev, bind_nm, bind_tp, bind_nil, bind_cons, Sl.get, datas, setMany, wipeE, Ty.is, asInt, partOf, fdiv_int, mod_int, x1]
    rw [rangeM_ok (by decide) (by decide) (by omega) (by omega), M.pure_bind]
    rw [genB_flat (L := List.range (t.h - 0).toNat) (enc := fun (k : Nat) => D.d (.int (0 + (k : Int)))) (f := fun (y : Nat) => (offs t x y).map Stand.enc) (by rfl) fun y hy => ⟨_, by rfl, ?_⟩]
    · simp -implicitDefEqProofs [rowOf, List.map_flatMap]
    · simp -implicitDefEqProofs [run_out, startE, E.ev, E.tst, Es.ev, Oe.prt, Oe.ok, It.ev, bind_nm, bind_tp, bind_nil, bind_cons, Sl.get, datas, setMany, wipeE, Ty.is, asInt, partOf, fdiv_int, mod_int]
      rw [genB_all (L := offs t x y) (enc := fun s => D.d (.int s.o)) (g := Stand.enc) (by unfold offs; rw [List.map_map]; simp -implicitDefEqProofs [rangeP, Function.comp_def]) fun s hs => ?_]
      refine ⟨_, by rfl, ?_⟩
      obtain ⟨k, hk, rfl⟩ := List.mem_map.mp hs
      simp -implicitDefEqProofs [f_all_stands_c1, run_out, startE, E.ev, E.tst, Es.ev, Oe.prt, Oe.ok, It.ev, bind_nm, bind_tp, bind_nil, bind_cons, Sl.get, datas, setMany, wipeE, Ty.is, asInt, partOf, fdiv_int, mod_int, Stand.enc]
theorem fits_filter {t : Net} (h : t.Ok) (p : Stand → Bool) : fitsLine ((standsOf t).filter p).length = true := by
  have hb := stands_bounds h
  have := List.length_filter_le p (standsOf t)
  exact decide_eq_true (by omega)
theorem r_lets {t : Net} (h : t.Ok) {g : Sign} (k : g.Ok t) : g_lets [.d t.enc, .d g.enc] = M.pure (.d (.tuple (((standsOf t).filter fun s => fitsX t s g).map Stand.enc))) := by
  have f1 := fits_filter h fun s => fitsX t s g
  simp -implicitDefEqProofs [g_lets, f_lets, run_out, startE, E.ev, E.tst, Es.ev, Oe.prt, Oe.ok, It.ev, bind_nm, bind_tp, bind_nil, bind_cons, Sl.get, datas, setMany, wipeE, Ty.is, asInt, partOf, fdiv_int, mod_int, r_need_net h, r_need_sign h k, r_all_stands h]
  rw [genB_map (L := standsOf t) (enc := fun s => D.d s.enc) (p := fun s => fitsX t s g) (g := Stand.enc) (by rfl) fun s hs => ⟨_, by rfl, by simp -implicitDefEqProofs [f_lets_d1, run_out, startE, E.ev, E.tst, Es.ev, Oe.prt, Oe.ok, It.ev, bind_nm, bind_tp, bind_nil, bind_cons, Sl.get, datas, setMany, wipeE, Ty.is, asInt, partOf, fdiv_int, mod_int, r_fits_by h s k], fun _ => by simp -implicitDefEqProofs [f_lets_c1, run_out, startE, E.ev, E.tst, Es.ev, Oe.prt, Oe.ok, It.ev, bind_nm, bind_tp, bind_nil, bind_cons, Sl.get, datas, setMany, wipeE, Ty.is, asInt, partOf, fdiv_int, mod_int]⟩]
  simp -implicitDefEqProofs [f1]
theorem r_lot_by {t : Net} (h : t.Ok) {gs : List Sign} (k : Signs t gs) : g_lot_by [.d t.enc, .d (encG gs)] = M.pure (.d (.tuple ((lotOf t gs).map Stand.enc))) := by
  have f1 := fits_filter h fun s => gs.all (fitsX t s)
  simp -implicitDefEqProofs [g_lot_by, f_lot_by, run_out, startE, E.ev, E.tst, Es.ev, Oe.prt, Oe.ok, It.ev, bind_nm, bind_tp, bind_nil, bind_cons, Sl.get, datas, setMany, wipeE, Ty.is, asInt, partOf, fdiv_int, mod_int, r_all_stands h]
  rw [genB_map (L := standsOf t) (enc := fun s => D.d s.enc) (p := fun s => gs.all (fitsX t s)) (g := Stand.enc) (by rfl) fun s hs => ⟨_, by rfl, by simp -implicitDefEqProofs [f_lot_by_d1, run_out, startE, E.ev, E.tst, Es.ev, Oe.prt, Oe.ok, It.ev, bind_nm, bind_tp, bind_nil, bind_cons, Sl.get, datas, setMany, wipeE, Ty.is, asInt, partOf, fdiv_int, mod_int, r_fits_all h k s], fun _ => by simp -implicitDefEqProofs [f_lot_by_c1, run_out, startE, E.ev, E.tst, Es.ev, Oe.prt, Oe.ok, It.ev, bind_nm, bind_tp, bind_nil, bind_cons, Sl.get, datas, setMany, wipeE, Ty.is, asInt, partOf, fdiv_int, mod_int]⟩]
  simp -implicitDefEqProofs [f1, lotOf]
theorem r_lot_p {t : Net} (h : t.Ok) {gs : List Sign} (k : Signs t gs) : g_lot [.d t.enc, .d (encG gs)] = M.pure (.d (.tuple ((lotOf t gs).map Stand.enc))) := by
  simp -implicitDefEqProofs [g_lot, f_lot, run_out, startE, E.ev, E.tst, Es.ev, Oe.prt, Oe.ok, It.ev, bind_nm, bind_tp, bind_nil, bind_cons, Sl.get, datas, setMany, wipeE, Ty.is, asInt, partOf, fdiv_int, mod_int, r_need_signs h k, r_lot_by h k]
/-- some stands, shown -/
theorem stands_neat {t : Net} (h : t.Ok) {l : List Stand} (hl : l.length ≤ 3600) (ok : ∀ s ∈ l, s.Ok t) : Neat 500000 2 (.tuple (l.map Stand.enc)) := by
  refine (Neat.tuple (Neats.all (w := 130) (d := 1) fun p hp => ?_)).mono ?_ (Nat.le_refl _)
  · obtain ⟨s, hs, rfl⟩ := List.mem_map.mp hp
    have k := ok s hs
    have := k.x0; have := k.x1; have := k.y0; have := k.y1; have := k.o0; have := k.o1; have := h.w1; have := h.h1; have := h.c1
    exact (Neat.tuple (Neats.ints (ns := [s.x, s.y, s.o]) fun i hi => by simp at hi; omega)).mono (by simp) (Nat.le_refl _)
  · rw [List.length_map]
    omega
theorem lot_neat {t : Net} (h : t.Ok) (p : Stand → Bool) : Neat 500000 2 (.tuple (((standsOf t).filter p).map Stand.enc)) := by
  have hb := stands_bounds h
  have := List.length_filter_le p (standsOf t)
  exact stands_neat h (by omega) fun s hs => mem_standsOf.mp (List.mem_filter.mp hs).1
/-- two of these -/
theorem lot_same {t : Net} (h : t.Ok) (p : Stand → Bool) {q : PyData} (e : q = .tuple (((standsOf t).filter p).map Stand.enc)) : g__law_same [.d (.list [q, q]), .d (.list [q, q])] = M.pure (bl true) := by
  subst e
  have n := lot_neat h p
  exact r_same (Neat.list (Neats.cons n (Neats.cons n (Neats.nil.mono (w' := 0) (d' := 2) (by decide) (by decide))))) (by decide) (by decide)

end Lw

set_option Elab.async false
set_option linter.all false
set_option maxRecDepth 100000
set_option maxHeartbeats 1000000
namespace Lw
open PySem Fb
def f_lies_at_c1 : Fb.E := (.var 3)
def f_lies_at_d1 : Fb.E := (.not (.call "fits_by" g_fits_by (.cons (.var 0) (.cons (.var 2) (.cons (.var 4) .nil)))))
def f_lies_at : Fn := ⟨3, 5, (.cons (.ret (.blt .tuple (.cons (.lc [3, 4] (.gen [3, 4] (.enum (.var 1)) (.tp (.cons (.nm 3) (.cons (.nm 4) .nil))) (.yes f_lies_at_d1) (.fin f_lies_at_c1))) .nil))) .nil)⟩
def g_lies_at : List D → M D := f_lies_at.run
def f_told_stories_c1 : Fb.E := (.tup (.cons (.var 2) (.cons (.call "lies_at" g_lies_at (.cons (.var 0) (.cons (.var 1) (.cons (.var 2) .nil)))) .nil)))
def f_told_stories : Fn := ⟨2, 3, (.cons (.ret (.lc [2] (.gen [2] (.seq (.call "all_stands" g_all_stands (.cons (.var 0) .nil))) (.nm 2) .no (.fin f_told_stories_c1)))) .nil)⟩
def g_told_stories : List D → M D := f_told_stories.run
def f_need_many : Fn := ⟨1, 1, (.cons (.ifs (.not (.call "is_within" g_is_within (.cons (.var 0) (.cons (.cst (.int 0)) (.cons (.glo "MOST_LIES" (.int 12)) .nil))))) (.cons (.raise "NoNumber" "no number of signs") .nil) .nil) .nil)⟩
def g_need_many : List D → M D := f_need_many.run
def f_lot_but_c1 : Fb.E := (.var 3)
def f_lot_but_d1 : Fb.E := (.cmp .le (.blt .len (.cons (.var 4) .nil)) (.var 2))
def f_lot_but : Fn := ⟨3, 5, (.cons (.expr (.call "need_signs" g_need_signs (.cons (.var 0) (.cons (.var 1) .nil)))) (.cons (.expr (.call "need_many" g_need_many (.cons (.var 2) .nil))) (.cons (.ret (.blt .tuple (.cons (.lc [3, 4] (.gen [3, 4] (.seq (.call "told_stories" g_told_stories (.cons (.var 0) (.cons (.var 1) .nil)))) (.tp (.cons (.nm 3) (.cons (.nm 4) .nil))) (.yes f_lot_but_d1) (.fin f_lot_but_c1))) .nil))) .nil)))⟩
def g_lot_but : List D → M D := f_lot_but.run
def f__law_some_signs : Fn := ⟨3, 4, (.cons (.set (.nm 3) (.call "_law_signs" g__law_signs (.cons (.var 0) (.cons (.var 1) (.cons (.var 2) (.cons (.bin .mod (.call "_law_draw" g__law_draw (.cons (.var 0) (.cons (.cst (.int 3)) .nil))) (.cst (.int 2))) .nil)))))) (.cons (.ifs (.and (.cmp .ne (.var 3) (.tup .nil)) (.cmp .eq (.call "_law_draw" g__law_draw (.cons (.var 0) (.cons (.cst (.int 4)) .nil))) (.cst (.int 0)))) (.cons (.set (.nm 3) (.bin .add (.cut (.var 3) .no (.yes (.bin .sub (.var 2) (.cst (.int 1))))) (.cut (.var 3) .no (.yes (.cst (.int 1)))))) .nil) .nil) (.cons (.ret (.var 3)) .nil)))⟩
def g__law_some_signs : List D → M D := f__law_some_signs.run
def f__law_lies_c1 : Fb.E := (.var 3)
def f__law_lies_d1 : Fb.E := (.not (.call "_law_fits" g__law_fits (.cons (.var 0) (.cons (.var 2) (.cons (.var 4) .nil)))))
def f__law_lies : Fn := ⟨3, 5, (.cons (.ret (.blt .tuple (.cons (.lc [3, 4] (.gen [3, 4] (.enum (.var 1)) (.tp (.cons (.nm 3) (.cons (.nm 4) .nil))) (.yes f__law_lies_d1) (.fin f__law_lies_c1))) .nil))) .nil)⟩
def g__law_lies : List D → M D := f__law_lies.run
/-! ### lies -/
def liesX (t : Net) (gs : List Sign) (s : Stand) : List Nat := (gs.zipIdx.filter fun p => !fitsX t s p.1).map Prod.snd
def lieN (t : Net) (gs : List Sign) (s : Stand) : Nat := (gs.filter fun g => !fitsX t s g).length
abbrev encN (l : List Nat) : PyData := .tuple (l.map fun (n : Nat) => .int (n : Int))
theorem liesX_len (t : Net) (gs : List Sign) (s : Stand) : (liesX t gs s).length = lieN t gs s := by
  unfold liesX lieN
  rw [List.length_map]
  have e : gs.zipIdx.map Prod.fst = gs := List.zipIdx_map_fst 0 gs
  have : (gs.zipIdx.map Prod.fst).filter (fun g => !fitsX t s g) = (gs.zipIdx.filter fun p => !fitsX t s p.1).map Prod.fst := by rw [List.filter_map]; rfl
  rw [e] at this
  rw [this, List.length_map]
theorem lieN_le {t : Net} {gs : List Sign} (k : Signs t gs) (s : Stand) : lieN t gs s ≤ 12 := Nat.le_trans (List.length_filter_le _ _) k.l
theorem enumL_map {α : Type} (f : α → PyData) : ∀ (l : List α) (k : Nat), enumL k (l.map f) = (l.zipIdx k).map fun p => D.d (.tuple [.int (p.2 : Nat), f p.1])
  | [], _ => rfl
  | a :: l, k => by
    rw [List.map_cons, enumL, enumL_map f l (k + 1), List.zipIdx_cons]
    rfl
theorem zip_mem {gs : List Sign} {p : Sign × Nat} (h : p ∈ gs.zipIdx) : p.1 ∈ gs := by
  have e : gs.zipIdx.map Prod.fst = gs := List.zipIdx_map_fst 0 gs
  rw [← e]
  exact List.mem_map_of_mem h
theorem r_lies_at {t : Net} (h : t.Ok) {gs : List Sign} (k : Signs t gs) (s : Stand) : g_lies_at [.d t.enc, .d (encG gs), .d s.enc] = M.pure (.d (encN (liesX t gs s))) := by
  have f1 : fitsLine (liesX t gs s).length = true := fits_small (by rw [liesX_len]; have := lieN_le k s; omega)
  have hg : genB [3, 4] (.tp (.cons (.nm 3) (.cons (.nm 4) .nil))) (.yes f_lies_at_d1) (.fin f_lies_at_c1) [.v (.d t.enc), .v (.d (encG gs)), .v (.d s.enc), .un, .un] (enumL 0 (gs.map Sign.enc)) = M.pure ((liesX t gs s).map fun (n : Nat) => .int (n : Int)) := by
    unfold liesX
    rw [List.map_map]
    exact genB_map (enc := fun p : Sign × Nat => D.d (.tuple [.int (p.2 : Nat), p.1.enc])) (p := fun p => !fitsX t s p.1) (enumL_map _ _ _) fun p hp => ⟨_, rfl, by simp -implicitDefEqProofs [f_lies_at_d1, run_out, startE, E.ev, E.tst, Es.ev, Oe.prt, Oe.ok, It.ev, bind_nm, bind_tp, bind_nil, bind_cons, Sl.get, datas, setMany, wipeE, Ty.is, asInt, partOf, fdiv_int, mod_int, r_fits_by h s (k.ok p.1 (zip_mem hp))], fun _ => by simp -implicitDefEqProofs [f_lies_at_c1, run_out, startE, E.ev, E.tst, Es.ev, Oe.prt, Oe.ok, It.ev, bind_nm, bind_tp, bind_nil, bind_cons, Sl.get, datas, setMany, wipeE, Ty.is, asInt, partOf, fdiv_int, mod_int]⟩
  simp -implicitDefEqProofs only [encG] at hg ⊢
  simp -implicitDefEqProofs [g_lies_at, f_lies_at, run_out, startE, E.ev, E.tst, Es.ev, Oe.prt, Oe.ok, It.ev, bind_nm, bind_tp, bind_nil, bind_cons, Sl.get, datas, setMany, wipeE, Ty.is, asInt, partOf, fdiv_int, mod_int, hg, f1, encN]
theorem r_law_lies {t : Net} (h : t.Ok) {gs : List Sign} (k : Signs t gs) (s : Stand) : g__law_lies [.d t.enc, .d (encG gs), .d s.enc] = M.pure (.d (encN (liesX t gs s))) := by
  have f1 : fitsLine (liesX t gs s).length = true := fits_small (by rw [liesX_len]; have := lieN_le k s; omega)
  have hg : genB [3, 4] (.tp (.cons (.nm 3) (.cons (.nm 4) .nil))) (.yes f__law_lies_d1) (.fin f__law_lies_c1) [.v (.d t.enc), .v (.d (encG gs)), .v (.d s.enc), .un, .un] (enumL 0 (gs.map Sign.enc)) = M.pure ((liesX t gs s).map fun (n : Nat) => .int (n : Int)) := by
    unfold liesX
    rw [List.map_map]
    exact genB_map (enc := fun p : Sign × Nat => D.d (.tuple [.int (p.2 : Nat), p.1.enc])) (p := fun p => !fitsX t s p.1) (enumL_map _ _ _) fun p hp => ⟨_, rfl, by simp -implicitDefEqProofs [f__law_lies_d1, run_out, startE, E.ev, E.tst, Es.ev, Oe.prt, Oe.ok, It.ev, bind_nm, bind_tp, bind_nil, bind_cons, Sl.get, datas, setMany, wipeE, Ty.is, asInt, partOf, fdiv_int, mod_int, r_law_fits h s (k.ok p.1 (zip_mem hp))], fun _ => by simp -implicitDefEqProofs [f__law_lies_c1, run_out, startE, E.ev, E.tst, Es.ev, Oe.prt, Oe.ok, It.ev, bind_nm, bind_tp, bind_nil, bind_cons, Sl.get, datas, setMany, wipeE, Ty.is, asInt, partOf, fdiv_int, mod_int]⟩
  simp -implicitDefEqProofs only [encG] at hg ⊢
  simp -implicitDefEqProofs [g__law_lies, f__law_lies, run_out, startE, E.ev, E.tst, Es.ev, Oe.prt, Oe.ok, It.ev, bind_nm, bind_tp, bind_nil, bind_cons, Sl.get, datas, setMany, wipeE, Ty.is, asInt, partOf, fdiv_int, mod_int, hg, f1, encN]
theorem r_told_stories {t : Net} (h : t.Ok) {gs : List Sign} (k : Signs t gs) : g_told_stories [.d t.enc, .d (encG gs)] = M.pure (.d (.list ((standsOf t).map fun s => .tuple [s.enc, encN (liesX t gs s)]))) := by
  have hb := stands_bounds h
  have f1 : fitsLine (standsOf t).length = true := decide_eq_true (by omega)
  simp -implicitDefEqProofs [g_told_stories, f_told_stories, run_out, startE, E.ev, E.tst, Es.ev, Oe.prt, Oe.ok, It.ev, bind_nm, bind_tp, bind_nil, bind_cons, Sl.get, datas, setMany, wipeE, Ty.is, asInt, partOf, fdiv_int, mod_int, r_all_stands h]
  rw [genB_all (L := standsOf t) (enc := fun s => D.d s.enc) (g := fun s => .tuple [s.enc, encN (liesX t gs s)]) (by rfl) fun s hs => ⟨_, rfl, by simp -implicitDefEqProofs [f_told_stories_c1, run_out, startE, E.ev, E.tst, Es.ev, Oe.prt, Oe.ok, It.ev, bind_nm, bind_tp, bind_nil, bind_cons, Sl.get, datas, setMany, wipeE, Ty.is, asInt, partOf, fdiv_int, mod_int, r_lies_at h k s]⟩]
  simp -implicitDefEqProofs [f1]
theorem r_need_many {m : Int} (m0 : 0 ≤ m) (m1 : m ≤ 12) : g_need_many [.d (.int m)] = M.pure (.d .none) := by
  simp -implicitDefEqProofs [g_need_many, f_need_many, run_out, startE, E.ev, E.tst, Es.ev, Oe.prt, Oe.ok, It.ev, bind_nm, bind_tp, bind_nil, bind_cons, Sl.get, datas, setMany, wipeE, Ty.is, asInt, partOf, fdiv_int, mod_int, r_is_within, isIn_int m0 m1]
def fewP (t : Net) (gs : List Sign) (m : Int) (s : Stand) : Bool := decide ((lieN t gs s : Int) ≤ m)
theorem r_lot_but {t : Net} (h : t.Ok) {gs : List Sign} (k : Signs t gs) {m : Int} (m0 : 0 ≤ m) (m1 : m ≤ 12) : g_lot_but [.d t.enc, .d (encG gs), .d (.int m)] = M.pure (.d (.tuple (((standsOf t).filter (fewP t gs m)).map Stand.enc))) := by
  have f1 := fits_filter h (fewP t gs m)
  simp -implicitDefEqProofs [g_lot_but, f_lot_but, run_out, startE, E.ev, E.tst, Es.ev, Oe.prt, Oe.ok, It.ev, bind_nm, bind_tp, bind_nil, bind_cons, Sl.get, datas, setMany, wipeE, Ty.is, asInt, partOf, fdiv_int, mod_int, r_need_signs h k, r_need_many m0 m1, r_told_stories h k]
  rw [genB_map (L := standsOf t) (enc := fun s => D.d (.tuple [s.enc, encN (liesX t gs s)])) (p := fewP t gs m) (g := Stand.enc) (by rfl) fun s hs => ⟨_, rfl, by simp -implicitDefEqProofs [f_lot_but_d1, run_out, startE, E.ev, E.tst, Es.ev, Oe.prt, Oe.ok, It.ev, bind_nm, bind_tp, bind_nil, bind_cons, Sl.get, datas, setMany, wipeE, Ty.is, asInt, partOf, fdiv_int, mod_int, fewP, liesX_len], fun _ => by simp -implicitDefEqProofs [f_lot_but_c1, run_out, startE, E.ev, E.tst, Es.ev, Oe.prt, Oe.ok, It.ev, bind_nm, bind_tp, bind_nil, bind_cons, Sl.get, datas, setMany, wipeE, Ty.is, asInt, partOf, fdiv_int, mod_int]⟩]
  simp -implicitDefEqProofs [f1]
theorem few_zero {t : Net} {gs : List Sign} : (standsOf t).filter (fewP t gs 0) = lotOf t gs := by
  unfold lotOf
  refine List.filter_congr fun s _ => ?_
  rw [Bool.eq_iff_iff, ← none_unfit]
  unfold fewP lieN
  rw [decide_eq_true_eq, ← List.length_eq_zero_iff]
  omega
theorem few_all {t : Net} {gs : List Sign} (k : Signs t gs) : (standsOf t).filter (fewP t gs 12) = standsOf t := by
  refine List.filter_eq_self.mpr fun s _ => ?_
  have := lieN_le k s
  unfold fewP
  rw [decide_eq_true_eq]
  omega
/-! ### the law's signs -/
theorem signs_tidy (gs : List Sign) : Tidy 2 (encG gs) := Tidy.tuple (Tidys.all fun p hp => by
  obtain ⟨g, _, rfl⟩ := List.mem_map.mp hp
  exact Tidy.tuple (Tidys.ints [(g.i : Int), g.k, g.g]))
theorem signs_eq_nil (gs : List Sign) : eqP (encG gs) (.tuple []) = some gs.isEmpty := Tidy.eq (signs_tidy gs) (Tidy.tuple (Tidys.nil 0)) (by decide) (by decide) (by cases gs <;> simp -implicitDefEqProofs [encG])
theorem cut_front (gs : List Sign) (n : Nat) : cutP (encG gs) none (some (n : Int)) = some (encG (gs.take n)) := by
  have hn : ¬ ((n : Int) < 0) := by omega
  simp -implicitDefEqProofs only [encG, cutP, HT.sIx, List.length_map]
  rcases Nat.le_total n gs.length with h | h
  · simp -implicitDefEqProofs [h, hn, List.map_take]
  · have e : gs.take n = gs := List.take_of_length_le h
    simp -implicitDefEqProofs [h, hn, e]
    exact List.take_of_length_le (by simp)
theorem r_some_signs (r : Nat) {t : Net} {m0 : Int} (h : t.Sm m0) {most : Nat} (q1 : 1 ≤ most) (q2 : most ≤ 12) {st : Sto} (h0 : Pn r st) : Tri (g__law_some_signs [.ref r, .d t.enc, .d (.int most)]) st fun v s' => Pn r s' ∧ ∃ gs : List Sign, v = .d (encG gs) ∧ gs.length ≤ most ∧ Signs t gs := by
  refine Tri.runH (f := f__law_some_signs) ⟨rfl, Nat.le_of_ble_eq_true rfl⟩ fun R0 up0 => ?_
  rw [show f__law_some_signs.ns = 4 from rfl]
  refine Tri.step fun R up => ?_
  try simp -implicitDefEqProofs [run_out, startE, E.ev, E.tst, Es.ev, Oe.prt, Oe.ok, It.ev, bind_nm, bind_tp, bind_nil, bind_cons, Sl.get, datas, setMany, wipeE, Ty.is, asInt, partOf, fdiv_int, mod_int]
  refine (r_draw r 3 (by omega) (by omega) _ h0).bind ?_
  rintro _ s1 ⟨h1, i1, rfl, a1, b1⟩
  try simp -implicitDefEqProofs [run_out, startE, E.ev, E.tst, Es.ev, Oe.prt, Oe.ok, It.ev, bind_nm, bind_tp, bind_nil, bind_cons, Sl.get, datas, setMany, wipeE, Ty.is, asInt, partOf, fdiv_int, mod_int]
  obtain ⟨z, hz, z0, z1⟩ : ∃ z : Int, i1 % 2 = z ∧ 0 ≤ z ∧ z ≤ 1 := ⟨_, rfl, by omega, by omega⟩
  simp -implicitDefEqProofs [hz]
  refine (r_signs r h (most := most) (lies := z) (by omega) (by omega) z0 z1 h1).bind ?_
  rintro _ s2 ⟨h2, gs, rfl, hl, k⟩
  try simp -implicitDefEqProofs [run_out, startE, E.ev, E.tst, Es.ev, Oe.prt, Oe.ok, It.ev, bind_nm, bind_tp, bind_nil, bind_cons, Sl.get, datas, setMany, wipeE, Ty.is, asInt, partOf, fdiv_int, mod_int]
  refine Tri.pure (up _ _ (Rest.nx ?_))
  refine Tri.step fun R up => ?_
  have e0 := signs_eq_nil gs
  have c1 := cut_front gs (most - 1)
  have c2 := cut_front gs 1
  rw [show ((most - 1 : Nat) : Int) = (most : Int) - 1 by omega] at c1
  rw [show ((1 : Nat) : Int) = 1 from rfl] at c2
  have fin : ∀ gs' : List Sign, ∀ s', Pn r s' → gs'.length ≤ most → Signs t gs' → Rest (.cons (.ret (.var 3)) .nil) R0 (.nx [.v (.ref r), .v (.d t.enc), .v (.d (.int most)), .v (.d (encG gs'))]) s' := fun gs' s' hp hl k => by
    refine Rest.nx (Tri.stepL fun R up => ?_)
    try simp -implicitDefEqProofs [run_out, startE, E.ev, E.tst, Es.ev, Oe.prt, Oe.ok, It.ev, bind_nm, bind_tp, bind_nil, bind_cons, Sl.get, datas, setMany, wipeE, Ty.is, asInt, partOf, fdiv_int, mod_int]
    exact Tri.pure (up _ _ (up0 _ _ ⟨hp, gs', rfl, hl, k⟩))
  cases q : gs.isEmpty with
  | true =>
    rw [q] at e0
    simp -implicitDefEqProofs [run_out, startE, E.ev, E.tst, Es.ev, Oe.prt, Oe.ok, It.ev, bind_nm, bind_tp, bind_nil, bind_cons, Sl.get, datas, setMany, wipeE, Ty.is, asInt, partOf, fdiv_int, mod_int, e0]
    exact Tri.pure (up _ _ (fin _ _ h2 (by omega) k))
  | false =>
    rw [q] at e0
    simp -implicitDefEqProofs [run_out, startE, E.ev, E.tst, Es.ev, Oe.prt, Oe.ok, It.ev, bind_nm, bind_tp, bind_nil, bind_cons, Sl.get, datas, setMany, wipeE, Ty.is, asInt, partOf, fdiv_int, mod_int, e0]
    refine (r_draw r 4 (by omega) (by omega) _ h2).bind ?_
    rintro _ s3 ⟨h3, i3, rfl, a3, b3⟩
    try simp -implicitDefEqProofs [run_out, startE, E.ev, E.tst, Es.ev, Oe.prt, Oe.ok, It.ev, bind_nm, bind_tp, bind_nil, bind_cons, Sl.get, datas, setMany, wipeE, Ty.is, asInt, partOf, fdiv_int, mod_int]
    by_cases c : i3 = 0
    · have fl : fitsLine ((gs.take (most - 1)).length + (gs.take 1).length) = true := fits_small (by simp -implicitDefEqProofs only [List.length_take]; omega)
      have ad : Bo.run .add (encG (gs.take (most - 1))) (encG (gs.take 1)) = some (encG (gs.take (most - 1) ++ gs.take 1)) := by
        simp -implicitDefEqProofs only [encG, add_tup, List.length_map, fl, if_true, List.map_append]
      simp -implicitDefEqProofs [run_out, startE, E.ev, E.tst, Es.ev, Oe.prt, Oe.ok, It.ev, bind_nm, bind_tp, bind_nil, bind_cons, Sl.get, datas, setMany, wipeE, Ty.is, asInt, partOf, fdiv_int, mod_int, c, c1, c2, ad]
      refine Tri.pure (up _ _ (fin _ _ h3 (by simp -implicitDefEqProofs only [List.length_append, List.length_take]; omega) ⟨by simp -implicitDefEqProofs only [List.length_append, List.length_take]; omega, fun g hg => ?_⟩))
      rcases List.mem_append.mp hg with z | z
      · exact k.ok g (List.mem_of_mem_take z)
      · exact k.ok g (List.mem_of_mem_take z)
    · simp -implicitDefEqProofs [run_out, startE, E.ev, E.tst, Es.ev, Oe.prt, Oe.ok, It.ev, bind_nm, bind_tp, bind_nil, bind_cons, Sl.get, datas, setMany, wipeE, Ty.is, asInt, partOf, fdiv_int, mod_int, c]
      exact Tri.pure (up _ _ (fin _ _ h3 (by omega) k))

end Lw

set_option Elab.async false
set_option linter.all false
set_option maxRecDepth 100000
set_option maxHeartbeats 1000000
namespace Lw
open PySem Fb
def f_law_k46_c1 : Fb.E := (.var 8)
def f_law_k46_d1 : Fb.E := (.cmp .le (.blt .len (.cons (.call "_law_lies" g__law_lies (.cons (.var 4) (.cons (.var 5) (.cons (.var 8) .nil)))) .nil)) (.var 6))
def f_law_k46_l1 : Fb.Ss := (.cons (.set (.nm 7) (.blt .tuple (.cons (.lc [8] (.gen [8] (.seq (.call "_law_stands" g__law_stands (.cons (.var 4) .nil))) (.nm 8) (.yes f_law_k46_d1) (.fin f_law_k46_c1))) .nil))) (.cons (.ifs (.not (.call "_law_same" g__law_same (.cons (.lst (.cons (.call "lot_but" g_lot_but (.cons (.var 4) (.cons (.var 5) (.cons (.var 6) .nil)))) (.cons (.call "lot_but" g_lot_but (.cons (.var 4) (.cons (.var 5) (.cons (.var 6) .nil)))) .nil))) (.cons (.lst (.cons (.var 7) (.cons (.var 7) .nil))) .nil)))) (.cons (.ret (.cst (.bool false))) .nil) .nil) .nil))
def f_law_k46_l2 : Fb.Ss := (.cons (.set (.nm 4) (.call "_law_net" g__law_net (.cons (.var 2) (.cons (.cst (.int 5)) .nil)))) (.cons (.set (.nm 5) (.call "_law_some_signs" g__law_some_signs (.cons (.var 2) (.cons (.var 4) (.cons (.ix (.lst (.cons (.cst (.int 12)) (.cons (.cst (.int 5)) .nil))) (.bin .mod (.var 3) (.cst (.int 2)))) .nil))))) (.cons (.for_ (.seq (.lst (.cons (.cst (.int 0)) (.cons (.cst (.int 1)) (.cons (.cst (.int 2)) (.cons (.blt .len (.cons (.var 5) .nil)) (.cons (.cst (.int 12)) (.cons (.call "_law_draw" g__law_draw (.cons (.var 2) (.cons (.cst (.int 13)) .nil))) .nil)))))))) (.nm 6) f_law_k46_l1) (.cons (.ifs (.or (.cmp .ne (.call "lot_but" g_lot_but (.cons (.var 4) (.cons (.var 5) (.cons (.cst (.int 0)) .nil)))) (.call "lot" g_lot (.cons (.var 4) (.cons (.var 5) .nil)))) (.cmp .ne (.blt .len (.cons (.call "lot_but" g_lot_but (.cons (.var 4) (.cons (.var 5) (.cons (.cst (.int 12)) .nil)))) .nil)) (.blt .len (.cons (.call "_law_stands" g__law_stands (.cons (.var 4) .nil)) .nil)))) (.cons (.ret (.cst (.bool false))) .nil) .nil) .nil))))
def f_law_k46_l3 : Fb.Ss := (.cons (.set (.nm 2) (.call "_law_pen" g__law_pen (.cons (.call "_law_cell_at" g__law_cell_at (.cons (.var 0) (.cons (.var 1) .nil))) .nil))) (.cons (.for_ (.rng1 (.cst (.int 3))) (.nm 3) f_law_k46_l2) .nil))
def f_law_k46 : Fn := ⟨1, 9, (.cons (.for_ (.rng1 (.blt .max2 (.cons (.cst (.int 1)) (.cons (.blt .min2 (.cons (.blt .len (.cons (.var 0) .nil)) (.cons (.cst (.int 4)) .nil))) .nil)))) (.nm 1) f_law_k46_l3) (.cons (.ret (.cst (.bool true))) .nil))⟩
def g_law_k46 : List D → M D := f_law_k46.run

end Lw

set_option Elab.async false
set_option linter.all false
set_option maxRecDepth 100000
set_option maxHeartbeats 0
namespace Lw
open PySem PySem.Spec PyProof.Rows L2 Fb
abbrev prg : Program := (PySem.Challenge.rw_farbeats_k46_stands_with_so_many_lies).prog
def top (i : Nat) : Stmt := prg.main.body.getD i (.Pass ⟨0, 0, 0, 0⟩)
def e_is_whole : Ent := ⟨"is_whole", ⟨("is_whole", none), "is_whole", "is_whole", defArgs (top 6), defBody (top 6), defScope (top 6), [], []⟩, ["thing"], ["thing"]⟩
def e_is_within : Ent := ⟨"is_within", ⟨("is_within", none), "is_within", "is_within", defArgs (top 7), defBody (top 7), defScope (top 7), [], []⟩, ["thing", "least", "most"], ["thing", "least", "most"]⟩
def e_rises : Ent := ⟨"rises", ⟨("rises", none), "rises", "rises", defArgs (top 8), defBody (top 8), defScope (top 8), [], []⟩, ["row", "one", "later"], ["row"]⟩
def e_is_way : Ent := ⟨"is_way", ⟨("is_way", none), "is_way", "is_way", defArgs (top 13), defBody (top 13), defScope (top 13), [], []⟩, ["thing", "one", "least", "most"], ["thing"]⟩
def e_is_house : Ent := ⟨"is_house", ⟨("is_house", none), "is_house", "is_house", defArgs (top 14), defBody (top 14), defScope (top 14), [], []⟩, ["thing", "way", "one"], ["thing"]⟩
def e_place_by : Ent := ⟨"place_by", ⟨("place_by", none), "place_by", "place_by", defArgs (top 15), defBody (top 15), defScope (top 15), [], []⟩, ["house", "tick", "found", "begin", "x", "y", "step_x", "step_y"], ["house", "tick"]⟩
def e_is_net : Ent := ⟨"is_net", ⟨("is_net", none), "is_net", "is_net", defArgs (top 22), defBody (top 22), defScope (top 22), [], []⟩, ["thing", "wide", "high", "clocks", "slip", "houses", "one"], ["thing"]⟩
def e_need_net : Ent := ⟨"need_net", ⟨("need_net", none), "need_net", "need_net", defArgs (top 23), defBody (top 23), defScope (top 23), [], []⟩, ["thing"], ["thing"]⟩
def e_all_stands : Ent := ⟨"all_stands", ⟨("all_stands", none), "all_stands", "all_stands", defArgs (top 24), defBody (top 24), defScope (top 24), [], []⟩, ["net", "offs", "x", "y", "off"], ["net"]⟩
def e_far : Ent := ⟨"far", ⟨("far", none), "far", "far", defArgs (top 25), defBody (top 25), defScope (top 25), [], []⟩, ["one", "other"], ["one", "other"]⟩
def e_is_sign_by : Ent := ⟨"is_sign_by", ⟨("is_sign_by", none), "is_sign_by", "is_sign_by", defArgs (top 26), defBody (top 26), defScope (top 26), [], []⟩, ["net", "thing"], ["net", "thing"]⟩
def e_due_at : Ent := ⟨"due_at", ⟨("due_at", none), "due_at", "due_at", defArgs (top 27), defBody (top 27), defScope (top 27), [], []⟩, ["net", "stand", "house", "tick"], ["net", "stand", "house", "tick"]⟩
def e_slip_by : Ent := ⟨"slip_by", ⟨("slip_by", none), "slip_by", "slip_by", defArgs (top 28), defBody (top 28), defScope (top 28), [], []⟩, ["net", "stand", "sign"], ["net", "stand", "sign"]⟩
def e_fits_by : Ent := ⟨"fits_by", ⟨("fits_by", none), "fits_by", "fits_by", defArgs (top 29), defBody (top 29), defScope (top 29), [], []⟩, ["net", "stand", "sign"], ["net", "stand", "sign"]⟩
def e_are_signs_by : Ent := ⟨"are_signs_by", ⟨("are_signs_by", none), "are_signs_by", "are_signs_by", defArgs (top 32), defBody (top 32), defScope (top 32), [], []⟩, ["net", "thing", "one"], ["net", "thing"]⟩
def e_need_signs : Ent := ⟨"need_signs", ⟨("need_signs", none), "need_signs", "need_signs", defArgs (top 33), defBody (top 33), defScope (top 33), [], []⟩, ["net", "thing"], ["net", "thing"]⟩
def e_fits_all : Ent := ⟨"fits_all", ⟨("fits_all", none), "fits_all", "fits_all", defArgs (top 34), defBody (top 34), defScope (top 34), [], []⟩, ["net", "signs", "stand", "sign"], ["net", "signs", "stand"]⟩
def e_lot_by : Ent := ⟨"lot_by", ⟨("lot_by", none), "lot_by", "lot_by", defArgs (top 35), defBody (top 35), defScope (top 35), [], []⟩, ["net", "signs", "stand"], ["net", "signs"]⟩
def e_lot : Ent := ⟨"lot", ⟨("lot", none), "lot", "lot", defArgs (top 36), defBody (top 36), defScope (top 36), [], []⟩, ["net", "signs"], ["net", "signs"]⟩
def e_lies_at : Ent := ⟨"lies_at", ⟨("lies_at", none), "lies_at", "lies_at", defArgs (top 39), defBody (top 39), defScope (top 39), [], []⟩, ["net", "signs", "stand", "number", "sign"], ["net", "signs", "stand"]⟩
def e_told_stories : Ent := ⟨"told_stories", ⟨("told_stories", none), "told_stories", "told_stories", defArgs (top 40), defBody (top 40), defScope (top 40), [], []⟩, ["net", "signs", "stand"], ["net", "signs"]⟩
def e_need_many : Ent := ⟨"need_many", ⟨("need_many", none), "need_many", "need_many", defArgs (top 41), defBody (top 41), defScope (top 41), [], []⟩, ["thing"], ["thing"]⟩
def e_lot_but : Ent := ⟨"lot_but", ⟨("lot_but", none), "lot_but", "lot_but", defArgs (top 42), defBody (top 42), defScope (top 42), [], []⟩, ["net", "signs", "many", "stand", "lies"], ["net", "signs", "many"]⟩
def e__law_cell_at : Ent := ⟨"_law_cell_at", ⟨("_law_cell_at", none), "_law_cell_at", "_law_cell_at", defArgs (top 44), defBody (top 44), defScope (top 44), [], []⟩, ["_law_script", "_law_k"], ["_law_script", "_law_k"]⟩
def e__law_pen : Ent := ⟨"_law_pen", ⟨("_law_pen", none), "_law_pen", "_law_pen", defArgs (top 45), defBody (top 45), defScope (top 45), [], []⟩, ["_law_cell"], ["_law_cell"]⟩
def e__law_draw : Ent := ⟨"_law_draw", ⟨("_law_draw", none), "_law_draw", "_law_draw", defArgs (top 46), defBody (top 46), defScope (top 46), [], []⟩, ["_law_pen_here", "_law_many", "_law_mixed", "_law_found"], ["_law_pen_here", "_law_many"]⟩
def e__law_pick : Ent := ⟨"_law_pick", ⟨("_law_pick", none), "_law_pick", "_law_pick", defArgs (top 47), defBody (top 47), defScope (top 47), [], []⟩, ["_law_pen_here", "_law_some"], ["_law_pen_here", "_law_some"]⟩
def e__law_same : Ent := ⟨"_law_same", ⟨("_law_same", none), "_law_same", "_law_same", defArgs (top 48), defBody (top 48), defScope (top 48), [], []⟩, ["_law_found", "_law_due"], ["_law_found", "_law_due"]⟩
def e__law_far : Ent := ⟨"_law_far", ⟨("_law_far", none), "_law_far", "_law_far", defArgs (top 49), defBody (top 49), defScope (top 49), [], []⟩, ["_law_place", "_law_other"], ["_law_place", "_law_other"]⟩
def e__law_way : Ent := ⟨"_law_way", ⟨("_law_way", none), "_law_way", "_law_way", defArgs (top 50), defBody (top 50), defScope (top 50), [], []⟩, ["_law_pen_here", "_law_begin", "_law_x", "_law_y"], ["_law_pen_here", "_law_begin"]⟩
def e__law_house : Ent := ⟨"_law_house", ⟨("_law_house", none), "_law_house", "_law_house", defArgs (top 51), defBody (top 51), defScope (top 51), [], []⟩, ["_law_pen_here", "_law_lap", "_law_begin", "_law_found"], ["_law_pen_here"]⟩
def e__law_net : Ent := ⟨"_law_net", ⟨("_law_net", none), "_law_net", "_law_net", defArgs (top 52), defBody (top 52), defScope (top 52), [], []⟩, ["_law_pen_here", "_law_most", "_law_houses", "_law_wide", "_law_high", "_law_clocks", "_law_lap"], ["_law_pen_here", "_law_most"]⟩
def e__law_place_at : Ent := ⟨"_law_place_at", ⟨("_law_place_at", none), "_law_place_at", "_law_place_at", defArgs (top 53), defBody (top 53), defScope (top 53), [], []⟩, ["_law_house_here", "_law_tick", "_law_found", "_law_begin", "_law_x", "_law_y", "_law_right", "_law_up"], ["_law_house_here", "_law_tick"]⟩
def e__law_stands : Ent := ⟨"_law_stands", ⟨("_law_stands", none), "_law_stands", "_law_stands", defArgs (top 54), defBody (top 54), defScope (top 54), [], []⟩, ["_law_net_here", "_law_found", "_law_x", "_law_y", "_law_off"], ["_law_net_here"]⟩
def e__law_slip : Ent := ⟨"_law_slip", ⟨("_law_slip", none), "_law_slip", "_law_slip", defArgs (top 55), defBody (top 55), defScope (top 55), [], []⟩, ["_law_net_here", "_law_stand", "_law_sign", "_law_house_here", "_law_sent", "_law_heard_here"], ["_law_net_here", "_law_stand", "_law_sign"]⟩
def e__law_fits : Ent := ⟨"_law_fits", ⟨("_law_fits", none), "_law_fits", "_law_fits", defArgs (top 56), defBody (top 56), defScope (top 56), [], []⟩, ["_law_net_here", "_law_stand", "_law_sign"], ["_law_net_here", "_law_stand", "_law_sign"]⟩
def e__law_heard : Ent := ⟨"_law_heard", ⟨("_law_heard", none), "_law_heard", "_law_heard", defArgs (top 57), defBody (top 57), defScope (top 57), [], []⟩, ["_law_pen_here", "_law_net_here", "_law_stand", "_law_beyond", "_law_house_here", "_law_sent", "_law_late"], ["_law_pen_here", "_law_net_here", "_law_stand", "_law_beyond"]⟩
def e__law_signs : Ent := ⟨"_law_signs", ⟨("_law_signs", none), "_law_signs", "_law_signs", defArgs (top 58), defBody (top 58), defScope (top 58), [], []⟩, ["_law_pen_here", "_law_net_here", "_law_most", "_law_lies_here", "_law_lap", "_law_stand", "_law_found", "_law_beyond"], ["_law_pen_here", "_law_net_here", "_law_most", "_law_lies_here"]⟩
def e__law_lies : Ent := ⟨"_law_lies", ⟨("_law_lies", none), "_law_lies", "_law_lies", defArgs (top 59), defBody (top 59), defScope (top 59), [], []⟩, ["_law_net_here", "_law_signs_here", "_law_stand", "_law_at", "_law_sign"], ["_law_net_here", "_law_signs_here", "_law_stand"]⟩
def e__law_some_signs : Ent := ⟨"_law_some_signs", ⟨("_law_some_signs", none), "_law_some_signs", "_law_some_signs", defArgs (top 60), defBody (top 60), defScope (top 60), [], []⟩, ["_law_pen_here", "_law_net_here", "_law_most", "_law_found"], ["_law_pen_here", "_law_net_here", "_law_most"]⟩
def e_law : Ent := ⟨"law", ⟨("law", none), "law", "law", defArgs (top 61), defBody (top 61), defScope (top 61), [], []⟩, ["_law_script", "_law_k", "_law_pen_here", "_law_lap", "_law_net_here", "_law_signs_here", "_law_many", "_law_owed", "_law_stand"], ["_law_script"]⟩
def tbl : Tbl := ⟨[e_is_whole, e_is_within, e_rises, e_is_way, e_is_house, e_place_by, e_is_net, e_need_net, e_all_stands, e_far, e_is_sign_by, e_due_at, e_slip_by, e_fits_by, e_are_signs_by, e_need_signs, e_fits_all, e_lot_by, e_lot, e_lies_at, e_told_stories, e_need_many, e_lot_but, e__law_cell_at, e__law_pen, e__law_draw, e__law_pick, e__law_same, e__law_far, e__law_way, e__law_house, e__law_net, e__law_place_at, e__law_stands, e__law_slip, e__law_fits, e__law_heard, e__law_signs, e__law_lies, e__law_some_signs, e_law], [("BOUNDS", .tuple [.tuple [.int 0, .int 255], .tuple [.int (-50), .int 100], .tuple [.int (-50), .int 100], .tuple [.int (-7), .int 7], .tuple [.int (-7), .int 7]]), ("MOST_WAYS", .int 3), ("MOST_TICK", .int 300), ("MOST_SIDE", .int 12), ("MOST_CLOCKS", .int 12), ("MOST_SLIP", .int 4), ("MOST_HOUSES", .int 6), ("MOST_HEARD", .int 3000), ("MOST_SIGNS_lots", .int 12), ("MOST_LIES", .int 12)], ["BeatError", "NoNumber", "NoNet", "NoSigns"], [("MOST_SIGNS_lots", "MOST_SIGNS")]⟩
theorem b_is_whole : e_is_whole.Binds := fun _ _ _ _ _ _ us hl => match us, hl with | [_], _ => rfl
theorem k_is_whole : Keep tbl 1 "is_whole" g_is_whole := Keep.of (e := e_is_whole) (List.mem_of_getElem? (show tbl.ents[0]? = some e_is_whole from rfl)) (by decide +kernel) b_is_whole (by decide +kernel) (by
  simp only [f_is_whole, Fb.Ss.good, Fb.S.good, Fb.E.good, Fb.Es.good, Fb.Oe.good, Fb.It.good, Fb.G.good, and_self, true_and, and_true])
theorem b_is_within : e_is_within.Binds := fun _ _ _ _ _ _ us hl => match us, hl with | [_, _, _], _ => rfl
theorem k_is_within : Keep tbl 2 "is_within" g_is_within := Keep.of (e := e_is_within) (List.mem_of_getElem? (show tbl.ents[1]? = some e_is_within from rfl)) (by decide +kernel) b_is_within (by decide +kernel) (by
  have h_is_whole : Keep tbl 1 "is_whole" g_is_whole := Keep.up (k_is_whole) (show 1 ≤ 1 by decide)
  simp only [f_is_within, h_is_whole, Fb.Ss.good, Fb.S.good, Fb.E.good, Fb.Es.good, Fb.Oe.good, Fb.It.good, Fb.G.good, and_self, true_and, and_true])
theorem b_rises : e_rises.Binds := fun _ _ _ _ _ _ us hl => match us, hl with | [_], _ => rfl
theorem k_rises : Keep tbl 1 "rises" g_rises := Keep.of (e := e_rises) (List.mem_of_getElem? (show tbl.ents[2]? = some e_rises from rfl)) (by decide +kernel) b_rises (by decide +kernel) (by
  simp only [f_rises, f_rises_c1, Fb.Ss.good, Fb.S.good, Fb.E.good, Fb.Es.good, Fb.Oe.good, Fb.It.good, Fb.G.good, and_self, true_and, and_true])
theorem b_is_way : e_is_way.Binds := fun _ _ _ _ _ _ us hl => match us, hl with | [_], _ => rfl
theorem k_is_way : Keep tbl 3 "is_way" g_is_way := Keep.of (e := e_is_way) (List.mem_of_getElem? (show tbl.ents[3]? = some e_is_way from rfl)) (by decide +kernel) b_is_way (by decide +kernel) (by
  have h_is_within : Keep tbl 2 "is_within" g_is_within := Keep.up (k_is_within) (show 2 ≤ 2 by decide)
  simp only [f_is_way, f_is_way_c1, h_is_within, Fb.Ss.good, Fb.S.good, Fb.E.good, Fb.Es.good, Fb.Oe.good, Fb.It.good, Fb.G.good, and_self, true_and, and_true])
theorem b_is_house : e_is_house.Binds := fun _ _ _ _ _ _ us hl => match us, hl with | [_], _ => rfl
theorem k_is_house : Keep tbl 4 "is_house" g_is_house := Keep.of (e := e_is_house) (List.mem_of_getElem? (show tbl.ents[4]? = some e_is_house from rfl)) (by decide +kernel) b_is_house (by decide +kernel) (by
  have h_rises : Keep tbl 3 "rises" g_rises := Keep.up (k_rises) (show 1 ≤ 3 by decide)
  have h_is_way : Keep tbl 3 "is_way" g_is_way := Keep.up (k_is_way) (show 3 ≤ 3 by decide)
  simp only [f_is_house, f_is_house_c1, f_is_house_c2, h_rises, h_is_way, Fb.Ss.good, Fb.S.good, Fb.E.good, Fb.Es.good, Fb.Oe.good, Fb.It.good, Fb.G.good, and_self, true_and, and_true])
theorem b_place_by : e_place_by.Binds := fun _ _ _ _ _ _ us hl => match us, hl with | [_, _], _ => rfl
theorem k_place_by : Keep tbl 1 "place_by" g_place_by := Keep.of (e := e_place_by) (List.mem_of_getElem? (show tbl.ents[5]? = some e_place_by from rfl)) (by decide +kernel) b_place_by (by decide +kernel) (by
  simp only [f_place_by, f_place_by_l1, Fb.Ss.good, Fb.S.good, Fb.E.good, Fb.Es.good, Fb.Oe.good, Fb.It.good, Fb.G.good, and_self, true_and, and_true])
theorem b_is_net : e_is_net.Binds := fun _ _ _ _ _ _ us hl => match us, hl with | [_], _ => rfl
theorem k_is_net : Keep tbl 5 "is_net" g_is_net := Keep.of (e := e_is_net) (List.mem_of_getElem? (show tbl.ents[6]? = some e_is_net from rfl)) (by decide +kernel) b_is_net (by decide +kernel) (by
  have h_is_within : Keep tbl 4 "is_within" g_is_within := Keep.up (k_is_within) (show 2 ≤ 4 by decide)
  have h_is_house : Keep tbl 4 "is_house" g_is_house := Keep.up (k_is_house) (show 4 ≤ 4 by decide)
  simp only [f_is_net, f_is_net_c1, h_is_within, h_is_house, Fb.Ss.good, Fb.S.good, Fb.E.good, Fb.Es.good, Fb.Oe.good, Fb.It.good, Fb.G.good, and_self, true_and, and_true])
theorem b_need_net : e_need_net.Binds := fun _ _ _ _ _ _ us hl => match us, hl with | [_], _ => rfl
theorem k_need_net : Keep tbl 6 "need_net" g_need_net := Keep.of (e := e_need_net) (List.mem_of_getElem? (show tbl.ents[7]? = some e_need_net from rfl)) (by decide +kernel) b_need_net (by decide +kernel) (by
  have h_is_net : Keep tbl 5 "is_net" g_is_net := Keep.up (k_is_net) (show 5 ≤ 5 by decide)
  simp only [f_need_net, h_is_net, Fb.Ss.good, Fb.S.good, Fb.E.good, Fb.Es.good, Fb.Oe.good, Fb.It.good, Fb.G.good, and_self, true_and, and_true])
theorem b_all_stands : e_all_stands.Binds := fun _ _ _ _ _ _ us hl => match us, hl with | [_], _ => rfl
theorem k_all_stands : Keep tbl 1 "all_stands" g_all_stands := Keep.of (e := e_all_stands) (List.mem_of_getElem? (show tbl.ents[8]? = some e_all_stands from rfl)) (by decide +kernel) b_all_stands (by decide +kernel) (by
  simp only [f_all_stands, f_all_stands_c1, Fb.Ss.good, Fb.S.good, Fb.E.good, Fb.Es.good, Fb.Oe.good, Fb.It.good, Fb.G.good, and_self, true_and, and_true])
theorem b_far : e_far.Binds := fun _ _ _ _ _ _ us hl => match us, hl with | [_, _], _ => rfl
theorem k_far : Keep tbl 1 "far" g_far := Keep.of (e := e_far) (List.mem_of_getElem? (show tbl.ents[9]? = some e_far from rfl)) (by decide +kernel) b_far (by decide +kernel) (by
  simp only [f_far, Fb.Ss.good, Fb.S.good, Fb.E.good, Fb.Es.good, Fb.Oe.good, Fb.It.good, Fb.G.good, and_self, true_and, and_true])
theorem b_is_sign_by : e_is_sign_by.Binds := fun _ _ _ _ _ _ us hl => match us, hl with | [_, _], _ => rfl
theorem k_is_sign_by : Keep tbl 3 "is_sign_by" g_is_sign_by := Keep.of (e := e_is_sign_by) (List.mem_of_getElem? (show tbl.ents[10]? = some e_is_sign_by from rfl)) (by decide +kernel) b_is_sign_by (by decide +kernel) (by
  have h_is_within : Keep tbl 2 "is_within" g_is_within := Keep.up (k_is_within) (show 2 ≤ 2 by decide)
  have h_place_by : Keep tbl 2 "place_by" g_place_by := Keep.up (k_place_by) (show 1 ≤ 2 by decide)
  simp only [f_is_sign_by, h_is_within, h_place_by, Fb.Ss.good, Fb.S.good, Fb.E.good, Fb.Es.good, Fb.Oe.good, Fb.It.good, Fb.G.good, and_self, true_and, and_true])
theorem b_due_at : e_due_at.Binds := fun _ _ _ _ _ _ us hl => match us, hl with | [_, _, _, _], _ => rfl
theorem k_due_at : Keep tbl 2 "due_at" g_due_at := Keep.of (e := e_due_at) (List.mem_of_getElem? (show tbl.ents[11]? = some e_due_at from rfl)) (by decide +kernel) b_due_at (by decide +kernel) (by
  have h_place_by : Keep tbl 1 "place_by" g_place_by := Keep.up (k_place_by) (show 1 ≤ 1 by decide)
  have h_far : Keep tbl 1 "far" g_far := Keep.up (k_far) (show 1 ≤ 1 by decide)
  simp only [f_due_at, h_place_by, h_far, Fb.Ss.good, Fb.S.good, Fb.E.good, Fb.Es.good, Fb.Oe.good, Fb.It.good, Fb.G.good, and_self, true_and, and_true])
theorem b_slip_by : e_slip_by.Binds := fun _ _ _ _ _ _ us hl => match us, hl with | [_, _, _], _ => rfl
theorem k_slip_by : Keep tbl 3 "slip_by" g_slip_by := Keep.of (e := e_slip_by) (List.mem_of_getElem? (show tbl.ents[12]? = some e_slip_by from rfl)) (by decide +kernel) b_slip_by (by decide +kernel) (by
  have h_due_at : Keep tbl 2 "due_at" g_due_at := Keep.up (k_due_at) (show 2 ≤ 2 by decide)
  simp only [f_slip_by, h_due_at, Fb.Ss.good, Fb.S.good, Fb.E.good, Fb.Es.good, Fb.Oe.good, Fb.It.good, Fb.G.good, and_self, true_and, and_true])
theorem b_fits_by : e_fits_by.Binds := fun _ _ _ _ _ _ us hl => match us, hl with | [_, _, _], _ => rfl
theorem k_fits_by : Keep tbl 4 "fits_by" g_fits_by := Keep.of (e := e_fits_by) (List.mem_of_getElem? (show tbl.ents[13]? = some e_fits_by from rfl)) (by decide +kernel) b_fits_by (by decide +kernel) (by
  have h_slip_by : Keep tbl 3 "slip_by" g_slip_by := Keep.up (k_slip_by) (show 3 ≤ 3 by decide)
  simp only [f_fits_by, h_slip_by, Fb.Ss.good, Fb.S.good, Fb.E.good, Fb.Es.good, Fb.Oe.good, Fb.It.good, Fb.G.good, and_self, true_and, and_true])
theorem b_are_signs_by : e_are_signs_by.Binds := fun _ _ _ _ _ _ us hl => match us, hl with | [_, _], _ => rfl
theorem k_are_signs_by : Keep tbl 4 "are_signs_by" g_are_signs_by := Keep.of (e := e_are_signs_by) (List.mem_of_getElem? (show tbl.ents[14]? = some e_are_signs_by from rfl)) (by decide +kernel) b_are_signs_by (by decide +kernel) (by
  have h_is_sign_by : Keep tbl 3 "is_sign_by" g_is_sign_by := Keep.up (k_is_sign_by) (show 3 ≤ 3 by decide)
  simp only [f_are_signs_by, f_are_signs_by_c1, h_is_sign_by, Fb.Ss.good, Fb.S.good, Fb.E.good, Fb.Es.good, Fb.Oe.good, Fb.It.good, Fb.G.good, and_self, true_and, and_true])
theorem b_need_signs : e_need_signs.Binds := fun _ _ _ _ _ _ us hl => match us, hl with | [_, _], _ => rfl
theorem k_need_signs : Keep tbl 7 "need_signs" g_need_signs := Keep.of (e := e_need_signs) (List.mem_of_getElem? (show tbl.ents[15]? = some e_need_signs from rfl)) (by decide +kernel) b_need_signs (by decide +kernel) (by
  have h_need_net : Keep tbl 6 "need_net" g_need_net := Keep.up (k_need_net) (show 6 ≤ 6 by decide)
  have h_are_signs_by : Keep tbl 6 "are_signs_by" g_are_signs_by := Keep.up (k_are_signs_by) (show 4 ≤ 6 by decide)
  simp only [f_need_signs, h_need_net, h_are_signs_by, Fb.Ss.good, Fb.S.good, Fb.E.good, Fb.Es.good, Fb.Oe.good, Fb.It.good, Fb.G.good, and_self, true_and, and_true])
theorem b_fits_all : e_fits_all.Binds := fun _ _ _ _ _ _ us hl => match us, hl with | [_, _, _], _ => rfl
theorem k_fits_all : Keep tbl 5 "fits_all" g_fits_all := Keep.of (e := e_fits_all) (List.mem_of_getElem? (show tbl.ents[16]? = some e_fits_all from rfl)) (by decide +kernel) b_fits_all (by decide +kernel) (by
  have h_fits_by : Keep tbl 4 "fits_by" g_fits_by := Keep.up (k_fits_by) (show 4 ≤ 4 by decide)
  simp only [f_fits_all, f_fits_all_c1, h_fits_by, Fb.Ss.good, Fb.S.good, Fb.E.good, Fb.Es.good, Fb.Oe.good, Fb.It.good, Fb.G.good, and_self, true_and, and_true])
theorem b_lot_by : e_lot_by.Binds := fun _ _ _ _ _ _ us hl => match us, hl with | [_, _], _ => rfl
theorem k_lot_by : Keep tbl 6 "lot_by" g_lot_by := Keep.of (e := e_lot_by) (List.mem_of_getElem? (show tbl.ents[17]? = some e_lot_by from rfl)) (by decide +kernel) b_lot_by (by decide +kernel) (by
  have h_all_stands : Keep tbl 5 "all_stands" g_all_stands := Keep.up (k_all_stands) (show 1 ≤ 5 by decide)
  have h_fits_all : Keep tbl 5 "fits_all" g_fits_all := Keep.up (k_fits_all) (show 5 ≤ 5 by decide)
  simp only [f_lot_by, f_lot_by_c1, f_lot_by_d1, h_all_stands, h_fits_all, Fb.Ss.good, Fb.S.good, Fb.E.good, Fb.Es.good, Fb.Oe.good, Fb.It.good, Fb.G.good, and_self, true_and, and_true])
theorem b_lot : e_lot.Binds := fun _ _ _ _ _ _ us hl => match us, hl with | [_, _], _ => rfl
theorem k_lot : Keep tbl 8 "lot" g_lot := Keep.of (e := e_lot) (List.mem_of_getElem? (show tbl.ents[18]? = some e_lot from rfl)) (by decide +kernel) b_lot (by decide +kernel) (by
  have h_need_signs : Keep tbl 7 "need_signs" g_need_signs := Keep.up (k_need_signs) (show 7 ≤ 7 by decide)
  have h_lot_by : Keep tbl 7 "lot_by" g_lot_by := Keep.up (k_lot_by) (show 6 ≤ 7 by decide)
  simp only [f_lot, h_need_signs, h_lot_by, Fb.Ss.good, Fb.S.good, Fb.E.good, Fb.Es.good, Fb.Oe.good, Fb.It.good, Fb.G.good, and_self, true_and, and_true])
theorem b_lies_at : e_lies_at.Binds := fun _ _ _ _ _ _ us hl => match us, hl with | [_, _, _], _ => rfl
theorem k_lies_at : Keep tbl 5 "lies_at" g_lies_at := Keep.of (e := e_lies_at) (List.mem_of_getElem? (show tbl.ents[19]? = some e_lies_at from rfl)) (by decide +kernel) b_lies_at (by decide +kernel) (by
  have h_fits_by : Keep tbl 4 "fits_by" g_fits_by := Keep.up (k_fits_by) (show 4 ≤ 4 by decide)
  simp only [f_lies_at, f_lies_at_c1, f_lies_at_d1, h_fits_by, Fb.Ss.good, Fb.S.good, Fb.E.good, Fb.Es.good, Fb.Oe.good, Fb.It.good, Fb.G.good, and_self, true_and, and_true])
theorem b_told_stories : e_told_stories.Binds := fun _ _ _ _ _ _ us hl => match us, hl with | [_, _], _ => rfl
theorem k_told_stories : Keep tbl 6 "told_stories" g_told_stories := Keep.of (e := e_told_stories) (List.mem_of_getElem? (show tbl.ents[20]? = some e_told_stories from rfl)) (by decide +kernel) b_told_stories (by decide +kernel) (by
  have h_all_stands : Keep tbl 5 "all_stands" g_all_stands := Keep.up (k_all_stands) (show 1 ≤ 5 by decide)
  have h_lies_at : Keep tbl 5 "lies_at" g_lies_at := Keep.up (k_lies_at) (show 5 ≤ 5 by decide)
  simp only [f_told_stories, f_told_stories_c1, h_all_stands, h_lies_at, Fb.Ss.good, Fb.S.good, Fb.E.good, Fb.Es.good, Fb.Oe.good, Fb.It.good, Fb.G.good, and_self, true_and, and_true])
theorem b_need_many : e_need_many.Binds := fun _ _ _ _ _ _ us hl => match us, hl with | [_], _ => rfl
theorem k_need_many : Keep tbl 3 "need_many" g_need_many := Keep.of (e := e_need_many) (List.mem_of_getElem? (show tbl.ents[21]? = some e_need_many from rfl)) (by decide +kernel) b_need_many (by decide +kernel) (by
  have h_is_within : Keep tbl 2 "is_within" g_is_within := Keep.up (k_is_within) (show 2 ≤ 2 by decide)
  simp only [f_need_many, h_is_within, Fb.Ss.good, Fb.S.good, Fb.E.good, Fb.Es.good, Fb.Oe.good, Fb.It.good, Fb.G.good, and_self, true_and, and_true])
theorem b_lot_but : e_lot_but.Binds := fun _ _ _ _ _ _ us hl => match us, hl with | [_, _, _], _ => rfl
theorem k_lot_but : Keep tbl 8 "lot_but" g_lot_but := Keep.of (e := e_lot_but) (List.mem_of_getElem? (show tbl.ents[22]? = some e_lot_but from rfl)) (by decide +kernel) b_lot_but (by decide +kernel) (by
  have h_need_signs : Keep tbl 7 "need_signs" g_need_signs := Keep.up (k_need_signs) (show 7 ≤ 7 by decide)
  have h_told_stories : Keep tbl 7 "told_stories" g_told_stories := Keep.up (k_told_stories) (show 6 ≤ 7 by decide)
  have h_need_many : Keep tbl 7 "need_many" g_need_many := Keep.up (k_need_many) (show 3 ≤ 7 by decide)
  simp only [f_lot_but, f_lot_but_c1, f_lot_but_d1, h_need_signs, h_told_stories, h_need_many, Fb.Ss.good, Fb.S.good, Fb.E.good, Fb.Es.good, Fb.Oe.good, Fb.It.good, Fb.G.good, and_self, true_and, and_true])
theorem b__law_cell_at : e__law_cell_at.Binds := fun _ _ _ _ _ _ us hl => match us, hl with | [_, _], _ => rfl
theorem k__law_cell_at : Keep tbl 1 "_law_cell_at" g__law_cell_at := Keep.of (e := e__law_cell_at) (List.mem_of_getElem? (show tbl.ents[23]? = some e__law_cell_at from rfl)) (by decide +kernel) b__law_cell_at (by decide +kernel) (by
  simp only [f__law_cell_at, Fb.Ss.good, Fb.S.good, Fb.E.good, Fb.Es.good, Fb.Oe.good, Fb.It.good, Fb.G.good, and_self, true_and, and_true])
theorem b__law_pen : e__law_pen.Binds := fun _ _ _ _ _ _ us hl => match us, hl with | [_], _ => rfl
theorem k__law_pen : Keep tbl 1 "_law_pen" g__law_pen := Keep.of (e := e__law_pen) (List.mem_of_getElem? (show tbl.ents[24]? = some e__law_pen from rfl)) (by decide +kernel) b__law_pen (by decide +kernel) (by
  simp only [f__law_pen, Fb.Ss.good, Fb.S.good, Fb.E.good, Fb.Es.good, Fb.Oe.good, Fb.It.good, Fb.G.good, and_self, true_and, and_true])
theorem b__law_draw : e__law_draw.Binds := fun _ _ _ _ _ _ us hl => match us, hl with | [_, _], _ => rfl
theorem k__law_draw : Keep tbl 1 "_law_draw" g__law_draw := Keep.of (e := e__law_draw) (List.mem_of_getElem? (show tbl.ents[25]? = some e__law_draw from rfl)) (by decide +kernel) b__law_draw (by decide +kernel) (by
  simp only [f__law_draw, Fb.Ss.good, Fb.S.good, Fb.E.good, Fb.Es.good, Fb.Oe.good, Fb.It.good, Fb.G.good, and_self, true_and, and_true])
theorem b__law_pick : e__law_pick.Binds := fun _ _ _ _ _ _ us hl => match us, hl with | [_, _], _ => rfl
theorem k__law_pick : Keep tbl 2 "_law_pick" g__law_pick := Keep.of (e := e__law_pick) (List.mem_of_getElem? (show tbl.ents[26]? = some e__law_pick from rfl)) (by decide +kernel) b__law_pick (by decide +kernel) (by
  have h__law_draw : Keep tbl 1 "_law_draw" g__law_draw := Keep.up (k__law_draw) (show 1 ≤ 1 by decide)
  simp only [f__law_pick, h__law_draw, Fb.Ss.good, Fb.S.good, Fb.E.good, Fb.Es.good, Fb.Oe.good, Fb.It.good, Fb.G.good, and_self, true_and, and_true])
theorem b__law_same : e__law_same.Binds := fun _ _ _ _ _ _ us hl => match us, hl with | [_, _], _ => rfl
theorem k__law_same : Keep tbl 1 "_law_same" g__law_same := Keep.of (e := e__law_same) (List.mem_of_getElem? (show tbl.ents[27]? = some e__law_same from rfl)) (by decide +kernel) b__law_same (by decide +kernel) (by
  simp only [f__law_same, Fb.Ss.good, Fb.S.good, Fb.E.good, Fb.Es.good, Fb.Oe.good, Fb.It.good, Fb.G.good, and_self, true_and, and_true])
theorem b__law_far : e__law_far.Binds := fun _ _ _ _ _ _ us hl => match us, hl with | [_, _], _ => rfl
theorem k__law_far : Keep tbl 1 "_law_far" g_far := Keep.of (e := e__law_far) (List.mem_of_getElem? (show tbl.ents[28]? = some e__law_far from rfl)) (by decide +kernel) b__law_far (by decide +kernel) (by
  simp only [f_far, Fb.Ss.good, Fb.S.good, Fb.E.good, Fb.Es.good, Fb.Oe.good, Fb.It.good, Fb.G.good, and_self, true_and, and_true])
theorem b__law_way : e__law_way.Binds := fun _ _ _ _ _ _ us hl => match us, hl with | [_, _], _ => rfl
theorem k__law_way : Keep tbl 2 "_law_way" g__law_way := Keep.of (e := e__law_way) (List.mem_of_getElem? (show tbl.ents[29]? = some e__law_way from rfl)) (by decide +kernel) b__law_way (by decide +kernel) (by
  have h__law_draw : Keep tbl 1 "_law_draw" g__law_draw := Keep.up (k__law_draw) (show 1 ≤ 1 by decide)
  simp only [f__law_way, h__law_draw, Fb.Ss.good, Fb.S.good, Fb.E.good, Fb.Es.good, Fb.Oe.good, Fb.It.good, Fb.G.good, and_self, true_and, and_true])
theorem b__law_house : e__law_house.Binds := fun _ _ _ _ _ _ us hl => match us, hl with | [_], _ => rfl
theorem k__law_house : Keep tbl 3 "_law_house" g__law_house := Keep.of (e := e__law_house) (List.mem_of_getElem? (show tbl.ents[30]? = some e__law_house from rfl)) (by decide +kernel) b__law_house (by decide +kernel) (by
  have h__law_draw : Keep tbl 2 "_law_draw" g__law_draw := Keep.up (k__law_draw) (show 1 ≤ 2 by decide)
  have h__law_pick : Keep tbl 2 "_law_pick" g__law_pick := Keep.up (k__law_pick) (show 2 ≤ 2 by decide)
  have h__law_way : Keep tbl 2 "_law_way" g__law_way := Keep.up (k__law_way) (show 2 ≤ 2 by decide)
  simp only [f__law_house, f__law_house_l1, h__law_draw, h__law_pick, h__law_way, Fb.Ss.good, Fb.S.good, Fb.E.good, Fb.Es.good, Fb.Oe.good, Fb.It.good, Fb.G.good, and_self, true_and, and_true])
theorem b__law_net : e__law_net.Binds := fun _ _ _ _ _ _ us hl => match us, hl with | [_, _], _ => rfl
theorem k__law_net : Keep tbl 4 "_law_net" g__law_net := Keep.of (e := e__law_net) (List.mem_of_getElem? (show tbl.ents[31]? = some e__law_net from rfl)) (by decide +kernel) b__law_net (by decide +kernel) (by
  have h__law_draw : Keep tbl 3 "_law_draw" g__law_draw := Keep.up (k__law_draw) (show 1 ≤ 3 by decide)
  have h__law_pick : Keep tbl 3 "_law_pick" g__law_pick := Keep.up (k__law_pick) (show 2 ≤ 3 by decide)
  have h__law_house : Keep tbl 3 "_law_house" g__law_house := Keep.up (k__law_house) (show 3 ≤ 3 by decide)
  simp only [f__law_net, f__law_net_c1, h__law_draw, h__law_pick, h__law_house, Fb.Ss.good, Fb.S.good, Fb.E.good, Fb.Es.good, Fb.Oe.good, Fb.It.good, Fb.G.good, and_self, true_and, and_true])
theorem b__law_place_at : e__law_place_at.Binds := fun _ _ _ _ _ _ us hl => match us, hl with | [_, _], _ => rfl
theorem k__law_place_at : Keep tbl 1 "_law_place_at" g_place_by := Keep.of (e := e__law_place_at) (List.mem_of_getElem? (show tbl.ents[32]? = some e__law_place_at from rfl)) (by decide +kernel) b__law_place_at (by decide +kernel) (by
  simp only [f_place_by, f_place_by_l1, Fb.Ss.good, Fb.S.good, Fb.E.good, Fb.Es.good, Fb.Oe.good, Fb.It.good, Fb.G.good, and_self, true_and, and_true])
theorem b__law_stands : e__law_stands.Binds := fun _ _ _ _ _ _ us hl => match us, hl with | [_], _ => rfl
theorem k__law_stands : Keep tbl 1 "_law_stands" g__law_stands := Keep.of (e := e__law_stands) (List.mem_of_getElem? (show tbl.ents[33]? = some e__law_stands from rfl)) (by decide +kernel) b__law_stands (by decide +kernel) (by
  simp only [f__law_stands, f__law_stands_c1, f__law_stands_l1, f__law_stands_l2, Fb.Ss.good, Fb.S.good, Fb.E.good, Fb.Es.good, Fb.Oe.good, Fb.It.good, Fb.G.good, and_self, true_and, and_true])
theorem b__law_slip : e__law_slip.Binds := fun _ _ _ _ _ _ us hl => match us, hl with | [_, _, _], _ => rfl
theorem k__law_slip : Keep tbl 2 "_law_slip" g__law_slip := Keep.of (e := e__law_slip) (List.mem_of_getElem? (show tbl.ents[34]? = some e__law_slip from rfl)) (by decide +kernel) b__law_slip (by decide +kernel) (by
  have h__law_far : Keep tbl 1 "_law_far" g_far := Keep.up (k__law_far) (show 1 ≤ 1 by decide)
  have h__law_place_at : Keep tbl 1 "_law_place_at" g_place_by := Keep.up (k__law_place_at) (show 1 ≤ 1 by decide)
  simp only [f__law_slip, h__law_far, h__law_place_at, Fb.Ss.good, Fb.S.good, Fb.E.good, Fb.Es.good, Fb.Oe.good, Fb.It.good, Fb.G.good, and_self, true_and, and_true])
theorem b__law_fits : e__law_fits.Binds := fun _ _ _ _ _ _ us hl => match us, hl with | [_, _, _], _ => rfl
theorem k__law_fits : Keep tbl 3 "_law_fits" g__law_fits := Keep.of (e := e__law_fits) (List.mem_of_getElem? (show tbl.ents[35]? = some e__law_fits from rfl)) (by decide +kernel) b__law_fits (by decide +kernel) (by
  have h__law_slip : Keep tbl 2 "_law_slip" g__law_slip := Keep.up (k__law_slip) (show 2 ≤ 2 by decide)
  simp only [f__law_fits, h__law_slip, Fb.Ss.good, Fb.S.good, Fb.E.good, Fb.Es.good, Fb.Oe.good, Fb.It.good, Fb.G.good, and_self, true_and, and_true])
theorem b__law_heard : e__law_heard.Binds := fun _ _ _ _ _ _ us hl => match us, hl with | [_, _, _, _], _ => rfl
theorem k__law_heard : Keep tbl 2 "_law_heard" g__law_heard := Keep.of (e := e__law_heard) (List.mem_of_getElem? (show tbl.ents[36]? = some e__law_heard from rfl)) (by decide +kernel) b__law_heard (by decide +kernel) (by
  have h__law_draw : Keep tbl 1 "_law_draw" g__law_draw := Keep.up (k__law_draw) (show 1 ≤ 1 by decide)
  have h__law_far : Keep tbl 1 "_law_far" g_far := Keep.up (k__law_far) (show 1 ≤ 1 by decide)
  have h__law_place_at : Keep tbl 1 "_law_place_at" g_place_by := Keep.up (k__law_place_at) (show 1 ≤ 1 by decide)
  simp only [f__law_heard, h__law_draw, h__law_far, h__law_place_at, Fb.Ss.good, Fb.S.good, Fb.E.good, Fb.Es.good, Fb.Oe.good, Fb.It.good, Fb.G.good, and_self, true_and, and_true])
theorem b__law_signs : e__law_signs.Binds := fun _ _ _ _ _ _ us hl => match us, hl with | [_, _, _, _], _ => rfl
theorem k__law_signs : Keep tbl 3 "_law_signs" g__law_signs := Keep.of (e := e__law_signs) (List.mem_of_getElem? (show tbl.ents[37]? = some e__law_signs from rfl)) (by decide +kernel) b__law_signs (by decide +kernel) (by
  have h__law_draw : Keep tbl 2 "_law_draw" g__law_draw := Keep.up (k__law_draw) (show 1 ≤ 2 by decide)
  have h__law_pick : Keep tbl 2 "_law_pick" g__law_pick := Keep.up (k__law_pick) (show 2 ≤ 2 by decide)
  have h__law_stands : Keep tbl 2 "_law_stands" g__law_stands := Keep.up (k__law_stands) (show 1 ≤ 2 by decide)
  have h__law_heard : Keep tbl 2 "_law_heard" g__law_heard := Keep.up (k__law_heard) (show 2 ≤ 2 by decide)
  simp only [f__law_signs, f__law_signs_l1, h__law_draw, h__law_pick, h__law_stands, h__law_heard, Fb.Ss.good, Fb.S.good, Fb.E.good, Fb.Es.good, Fb.Oe.good, Fb.It.good, Fb.G.good, and_self, true_and, and_true])
theorem b__law_lies : e__law_lies.Binds := fun _ _ _ _ _ _ us hl => match us, hl with | [_, _, _], _ => rfl
theorem k__law_lies : Keep tbl 4 "_law_lies" g__law_lies := Keep.of (e := e__law_lies) (List.mem_of_getElem? (show tbl.ents[38]? = some e__law_lies from rfl)) (by decide +kernel) b__law_lies (by decide +kernel) (by
  have h__law_fits : Keep tbl 3 "_law_fits" g__law_fits := Keep.up (k__law_fits) (show 3 ≤ 3 by decide)
  simp only [f__law_lies, f__law_lies_c1, f__law_lies_d1, h__law_fits, Fb.Ss.good, Fb.S.good, Fb.E.good, Fb.Es.good, Fb.Oe.good, Fb.It.good, Fb.G.good, and_self, true_and, and_true])
theorem b__law_some_signs : e__law_some_signs.Binds := fun _ _ _ _ _ _ us hl => match us, hl with | [_, _, _], _ => rfl
theorem k__law_some_signs : Keep tbl 4 "_law_some_signs" g__law_some_signs := Keep.of (e := e__law_some_signs) (List.mem_of_getElem? (show tbl.ents[39]? = some e__law_some_signs from rfl)) (by decide +kernel) b__law_some_signs (by decide +kernel) (by
  have h__law_draw : Keep tbl 3 "_law_draw" g__law_draw := Keep.up (k__law_draw) (show 1 ≤ 3 by decide)
  have h__law_signs : Keep tbl 3 "_law_signs" g__law_signs := Keep.up (k__law_signs) (show 3 ≤ 3 by decide)
  simp only [f__law_some_signs, h__law_draw, h__law_signs, Fb.Ss.good, Fb.S.good, Fb.E.good, Fb.Es.good, Fb.Oe.good, Fb.It.good, Fb.G.good, and_self, true_and, and_true])
theorem b_law : e_law.Binds := fun _ _ _ _ _ _ us hl => match us, hl with | [_], _ => rfl
theorem k_law : Keep tbl 9 "law" g_law_k46 := Keep.of (e := e_law) (List.mem_of_getElem? (show tbl.ents[40]? = some e_law from rfl)) (by decide +kernel) b_law (by decide +kernel) (by
  have h_lot : Keep tbl 8 "lot" g_lot := Keep.up (k_lot) (show 8 ≤ 8 by decide)
  have h_lot_but : Keep tbl 8 "lot_but" g_lot_but := Keep.up (k_lot_but) (show 8 ≤ 8 by decide)
  have h__law_cell_at : Keep tbl 8 "_law_cell_at" g__law_cell_at := Keep.up (k__law_cell_at) (show 1 ≤ 8 by decide)
  have h__law_pen : Keep tbl 8 "_law_pen" g__law_pen := Keep.up (k__law_pen) (show 1 ≤ 8 by decide)
  have h__law_draw : Keep tbl 8 "_law_draw" g__law_draw := Keep.up (k__law_draw) (show 1 ≤ 8 by decide)
  have h__law_same : Keep tbl 8 "_law_same" g__law_same := Keep.up (k__law_same) (show 1 ≤ 8 by decide)
  have h__law_net : Keep tbl 8 "_law_net" g__law_net := Keep.up (k__law_net) (show 4 ≤ 8 by decide)
  have h__law_stands : Keep tbl 8 "_law_stands" g__law_stands := Keep.up (k__law_stands) (show 1 ≤ 8 by decide)
  have h__law_lies : Keep tbl 8 "_law_lies" g__law_lies := Keep.up (k__law_lies) (show 4 ≤ 8 by decide)
  have h__law_some_signs : Keep tbl 8 "_law_some_signs" g__law_some_signs := Keep.up (k__law_some_signs) (show 4 ≤ 8 by decide)
  simp only [f_law_k46, f_law_k46_c1, f_law_k46_d1, f_law_k46_l1, f_law_k46_l2, f_law_k46_l3, h_lot, h_lot_but, h__law_cell_at, h__law_pen, h__law_draw, h__law_same, h__law_net, h__law_stands, h__law_lies, h__law_some_signs, Fb.Ss.good, Fb.S.good, Fb.E.good, Fb.Es.good, Fb.Oe.good, Fb.It.good, Fb.G.good, and_self, true_and, and_true])
end Lw

set_option Elab.async false
set_option linter.all false
set_option maxRecDepth 100000
set_option maxHeartbeats 1000000
namespace Lw
open PySem Fb
theorem law_is : f_law_k46 = lapLaw 5 f_law_k46_l2 4 3 := rfl
theorem many_turn {t : Net} (h : t.Ok) {gs : List Sign} (k : Signs t gs) {m : Int} (m0 : 0 ≤ m) (m1 : m ≤ 12) (p0 p1 p2 p3 p7 p8 : Sl) {st : Sto} {R : Fl → Sto → Prop}
    (up : ∀ q7 q8, R (.nx [p0, p1, p2, p3, .v (.d t.enc), .v (.d (encG gs)), .v (.d (.int m)), q7, q8]) st) : Tri (f_law_k46_l1.ev [p0, p1, p2, p3, .v (.d t.enc), .v (.d (encG gs)), .v (.d (.int m)), p7, p8]) st R := by
  have f1 := fits_filter h (fewP t gs m)
  have sm := lot_same h (fewP t gs m) rfl
  have e1 := r_lot_but h k m0 m1
  have hg : genB [8] (.nm 8) (.yes f_law_k46_d1) (.fin f_law_k46_c1) [p0, p1, p2, p3, .v (.d t.enc), .v (.d (encG gs)), .v (.d (.int m)), p7, p8] ((standsOf t).map (D.d ∘ Stand.enc)) = M.pure (((standsOf t).filter (fewP t gs m)).map Stand.enc) :=
    genB_map (enc := fun s => D.d s.enc) (by rfl) fun s hs => ⟨_, rfl, by simp -implicitDefEqProofs [f_law_k46_d1, run_out, startE, E.ev, E.tst, Es.ev, Oe.prt, Oe.ok, It.ev, bind_nm, bind_tp, bind_nil, bind_cons, Sl.get, datas, setMany, wipeE, Ty.is, asInt, partOf, fdiv_int, mod_int, r_law_lies h k s, fewP, liesX_len], fun _ => by simp -implicitDefEqProofs [f_law_k46_c1, run_out, startE, E.ev, E.tst, Es.ev, Oe.prt, Oe.ok, It.ev, bind_nm, bind_tp, bind_nil, bind_cons, Sl.get, datas, setMany, wipeE, Ty.is, asInt, partOf, fdiv_int, mod_int]⟩
  refine Tri.step fun R1 up1 => ?_
  simp -implicitDefEqProofs [run_out, startE, E.ev, E.tst, Es.ev, Oe.prt, Oe.ok, It.ev, bind_nm, bind_tp, bind_nil, bind_cons, Sl.get, datas, setMany, wipeE, Ty.is, asInt, partOf, fdiv_int, mod_int, r_stands h, hg, f1]
  refine Tri.pure (up1 _ _ (Rest.nx ?_))
  refine Tri.stepL fun R1 up1 => ?_
  simp -implicitDefEqProofs [run_out, startE, E.ev, E.tst, Es.ev, Oe.prt, Oe.ok, It.ev, bind_nm, bind_tp, bind_nil, bind_cons, Sl.get, datas, setMany, wipeE, Ty.is, asInt, partOf, fdiv_int, mod_int, e1, sm]
  exact Tri.pure (up1 _ _ (up _ _))
theorem lap_ok : Laps 5 f_law_k46_l2 := fun a k j r tail st k0 j0 hl h0 => by
  match tail, hl with
  | [p4, p5, p6, p7, p8], _ =>
    refine Tri.hide fun R up => ?_
    refine Tri.step fun R1 up1 => ?_
    try simp -implicitDefEqProofs [run_out, startE, E.ev, E.tst, Es.ev, Oe.prt, Oe.ok, It.ev, bind_nm, bind_tp, bind_nil, bind_cons, Sl.get, datas, setMany, wipeE, Ty.is, asInt, partOf, fdiv_int, mod_int]
    refine (r_net r 5 (by decide) (by decide) st h0).bind ?_
    rintro _ s1 ⟨h1, t, rfl, k⟩
    try simp -implicitDefEqProofs [run_out, startE, E.ev, E.tst, Es.ev, Oe.prt, Oe.ok, It.ev, bind_nm, bind_tp, bind_nil, bind_cons, Sl.get, datas, setMany, wipeE, Ty.is, asInt, partOf, fdiv_int, mod_int]
    refine Tri.pure (up1 _ _ (Rest.nx ?_))
    have h := k.ok
    obtain ⟨m, hm, m0, m1⟩ := atI_of (P := fun x => 1 ≤ x ∧ x ≤ 12) [12, 5] (i := j % 2) (Int.emod_nonneg _ (by decide)) (by have := Int.emod_lt_of_pos j (show (0 : Int) < 2 by decide); simpa using this) (by simp)
    simp -implicitDefEqProofs only [List.map_cons, List.map_nil] at hm
    obtain ⟨n, rfl⟩ := Int.eq_ofNat_of_zero_le (show 0 ≤ m by omega)
    refine Tri.step fun R1 up1 => ?_
    simp -implicitDefEqProofs [run_out, startE, E.ev, E.tst, Es.ev, Oe.prt, Oe.ok, It.ev, bind_nm, bind_tp, bind_nil, bind_cons, Sl.get, datas, setMany, wipeE, Ty.is, asInt, partOf, fdiv_int, mod_int, hm]
    refine (r_some_signs r k (most := n) (by omega) (by omega) h1).bind ?_
    rintro _ s2 ⟨h2, gs, rfl, hn, ks⟩
    try simp -implicitDefEqProofs [run_out, startE, E.ev, E.tst, Es.ev, Oe.prt, Oe.ok, It.ev, bind_nm, bind_tp, bind_nil, bind_cons, Sl.get, datas, setMany, wipeE, Ty.is, asInt, partOf, fdiv_int, mod_int]
    refine Tri.pure (up1 _ _ (Rest.nx ?_))
    have ln : Bl.run .len [encG gs] = some (.int gs.length) := by simp -implicitDefEqProofs [encG]
    refine Tri.step fun R1 up1 => ?_
    simp -implicitDefEqProofs [run_out, startE, E.ev, E.tst, Es.ev, Oe.prt, Oe.ok, It.ev, bind_nm, bind_tp, bind_nil, bind_cons, Sl.get, datas, setMany, wipeE, Ty.is, asInt, partOf, fdiv_int, mod_int, ln]
    refine (r_draw r 13 (by omega) (by omega) _ h2).bind ?_
    rintro _ s3 ⟨h3, i3, rfl, a3, b3⟩
    try simp -implicitDefEqProofs [run_out, startE, E.ev, E.tst, Es.ev, Oe.prt, Oe.ok, It.ev, bind_nm, bind_tp, bind_nil, bind_cons, Sl.get, datas, setMany, wipeE, Ty.is, asInt, partOf, fdiv_int, mod_int]
    have hl := ks.l
    refine Tri.for_ (I := fun env s' => ∃ q6 q7 q8, env = [_, _, _, _, .v (.d t.enc), .v (.d (encG gs)), q6, q7, q8] ∧ Pn r s') ⟨_, _, _, rfl, h3⟩ ?_ ?_
    · rintro x hx env st' ⟨q6, q7, q8, rfl, hp⟩
      obtain ⟨m, rfl, m0, m1⟩ : ∃ m : Int, x = .d (.int m) ∧ 0 ≤ m ∧ m ≤ 12 := by
        simp at hx
        rcases hx with rfl | rfl | rfl | rfl | rfl | rfl <;> exact ⟨_, rfl, by omega, by omega⟩
      refine ⟨_, by simp -implicitDefEqProofs [run_out, startE, E.ev, E.tst, Es.ev, Oe.prt, Oe.ok, It.ev, bind_nm, bind_tp, bind_nil, bind_cons, Sl.get, datas, setMany, wipeE, Ty.is, asInt, partOf, fdiv_int, mod_int]; rfl, Tri.hide fun R2 up2 => ?_⟩
      exact many_turn h ks m0 m1 _ _ _ _ _ _ fun q7 q8 => up2 _ _ ⟨_, _, _, rfl, hp⟩
    · rintro env st' ⟨q6, q7, q8, rfl, hp⟩
      refine up1 _ _ (Rest.nx ?_)
      have e1 := r_lot_but h ks (m := 0) (by decide) (by decide)
      have e2 := r_lot_but h ks (m := 12) (by decide) (by decide)
      have e3 := r_lot_p h ks
      rw [few_zero] at e1
      rw [few_all ks] at e2
      have eq : eqP (.tuple ((lotOf t gs).map Stand.enc)) (.tuple ((lotOf t gs).map Stand.enc)) = some true := (lot_neat h fun s => gs.all (fitsX t s)).eq (by decide)
      refine Tri.stepL fun R1 up1 => ?_
      simp -implicitDefEqProofs [run_out, startE, E.ev, E.tst, Es.ev, Oe.prt, Oe.ok, It.ev, bind_nm, bind_tp, bind_nil, bind_cons, Sl.get, datas, setMany, wipeE, Ty.is, asInt, partOf, fdiv_int, mod_int, e1, e2, e3, eq, r_stands h]
      exact Tri.pure (up1 _ _ (up _ _ ⟨_, by rfl, rfl, hp⟩))
theorem plain (ns : List Int) (_ : ns.length ≤ 63) : ∃ st, g_law_k46 [.scr ns] [] = .ok (bl true) st := by
  unfold g_law_k46
  rw [law_is]
  exact lap_law (by decide) (by decide) (by decide) (by decide) lap_ok ns

end Lw

set_option Elab.async false
set_option linter.all false
set_option maxRecDepth 100000
set_option maxHeartbeats 0
namespace Lw
open PySem PySem.Spec PyProof.Rows L2 Fb
abbrev opn : PySem.W.OpenRow := PySem.W.OpenLaw.row PySem.Challenge.rw_farbeats_k46_stands_with_so_many_lies
abbrev seen : Program := PySem.W.view opn.prog [61]
def loose : List PySem.Str := (["BeatError", "NoNumber", "NoNet", "NoSigns", "is_whole", "is_within", "rises", "BOUNDS", "MOST_WAYS", "MOST_TICK", "is_way", "is_house", "place_by", "MOST_SIDE", "MOST_CLOCKS", "MOST_SLIP", "MOST_HOUSES", "MOST_HEARD", "is_net", "need_net", "all_stands", "far", "is_sign_by", "due_at", "slip_by", "fits_by", "MOST_SIGNS", "are_signs_by", "need_signs", "fits_all"] : List PySem.Str) ++ (["lot_by", "lot", "MOST_LIES", "lies_at", "told_stories", "need_many", "lot_but", "_law_cell_at", "_law_pen", "_law_draw", "_law_pick", "_law_same", "_law_far", "_law_way", "_law_house", "_law_net", "_law_place_at", "_law_stands", "_law_slip", "_law_fits", "_law_heard", "_law_signs", "_law_lies", "_law_some_signs"] : List PySem.Str)
abbrev hk : PySem.W.Hook := He.hookX 5 tbl.fa tbl.fd [] [] tbl.ex
def ob (s : PySem.W.SharedT) : He.AlX := He.obsX 5 tbl.fa tbl.fd [] [] tbl.ex (HandSHeadRun.getT s)
theorem ob_eq (s : PySem.W.SharedT) : ob s = hk.obs s.abs := He.obsX_eq (HandSHeadRun.getT_eq s)
theorem runs (w : World) : HandSHeadRun.RunEq opn seen hk ob 4000 loose w := by
  intro os
  kernel_rfl
end Lw

set_option Elab.async false
set_option linter.all false
set_option maxRecDepth 100000
set_option maxHeartbeats 0
open PySem PySem.W PySem.Calls PyProof.Rows
theorem PySem.Challenge.cw_farbeats_k46_stands_with_so_many_lies_holds : PySem.Challenge.rw_farbeats_k46_stands_with_so_many_lies.Holds := by
  w_on; o_law
  refine HandSHeadRun.head_any (r := Lw.opn) (q := Lw.seen) (H := Lw.hk) (ob := Lw.ob) (M := 4000) (loose := Lw.loose) (d := HandSHeadRun.topDef Lw.opn.prog 61) (kwd := []) Lw.ob_eq
    (by kernel_rfl) (fun s => by kernel_rfl) Lw.runs (by kernel_rfl) (by kernel_rfl) (by kernel_rfl) (by rfl) (by first | assumption | decide +kernel) (by decide +kernel) ⟨rfl, rfl, rfl, rfl, rfl, by decide +kernel⟩ ?hw ?hc
  case hw => w_witness2
  case hc => exact Fb.walk_g (l := PySem.Challenge.rw_farbeats_k46_stands_with_so_many_lies) (n := 63) (k := 9) Lw.k_law (by decide +kernel) (by kernel_rfl) rfl (by decide) (by kernel_rfl) ⟨rfl, by decide, by decide⟩ Lw.plain

