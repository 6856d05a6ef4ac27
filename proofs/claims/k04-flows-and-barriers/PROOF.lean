import PyProof.Rows.All
import HandS.ForMost
import KE.GoesMore
import KE.GoesEnum
import HandS.TupAny
import HandS.TupMul
import KE.KIndexOf
import HandS.Deep
import HandS.TupLe
import HandS.SortInts
import HandS.Wide
import HandS.WideBits
import HandS.Zip
import HandS.Rev
import HandS.IsInst
import HandS.ForExc
import HandS.WordsDict
import HandS.NoneIn
import KE.DataCmp
import HandS.AnyAll
import PyProof.GenCompD
import HandS.SetFor
import HandS.Strs
import HandS.TupSets
import PyProof.ReprRoads
import KE.KExcSuper
import HandS.ExcInit
import HandS.ExcCtx
import HandS.ExcIs
import HandS.EndOwn
import KE.KNestM
import PySem.Challenge.RW_everybranch_k04_whole_flows_and_barriers
import PyProof.ReprLen
import PyProof.P3Eq
section
set_option Elab.async false
set_option linter.all false
set_option maxRecDepth 100000
set_option maxHeartbeats 4000000
/-! enumerate of a tuple. -/
namespace PySem
namespace EnT
open PyProof.Rows
theorem meets_enum1 {v : Value} {o : Obj} {H : Heap → Prop} (B : Begins v o H) :
    Meets (Builtin.«enumerate.__new__» ⟨[.type "enumerate", v], []⟩) (fun _ R s => H s.heap ∧
      R (.ok (.ret (.ref (s.heap.push o).objs.size))) { s with heap := (s.heap.push o).push { cls := .type "enumerate", data := .fields #[.none, .bool false, .ref s.heap.objs.size, rawInt 0, .none, .none] } }) :=
  .of_wp fun prog w A R s h => by
    obtain ⟨hp, g, d, tk, os⟩ := s; obtain ⟨h1, h⟩ := h
    have hsub := sub_enumerate
    have q1 : ∀ {A' : Around} {E : Value → Shared → Prop} {Q : Value → Shared → Prop}, Q (.ref hp.objs.size) ⟨hp.push o, g, d, tk, os⟩ → wpAny (model prog w) A' (pyIter v) Q E ⟨hp, g, d, tk, os⟩ :=
      fun q => B.iter prog w _ _ ⟨hp, g, d, tk, os⟩ _ h1 q
    wp_walk using q1
    refine wpAny_stack_any fun st => wpAny_pure ?_
    split
    · rename_i c _ _ _ _ _
      cases (c == Value.type "enumerate")
      · wp_walk using q1
        exact ⟨_, rfl, h⟩
      · wp_walk using q1
        exact ⟨_, rfl, h⟩
    · wp_walk using q1
      exact ⟨_, rfl, h⟩
section
variable {prog : Program} {w : World} {A : Around} {E : Value → Shared → Prop} {s : Shared}
theorem call_enum1 {v : Value} {o : Obj} {H : Heap → Prop} {Q : Value → Shared → Prop} (B : Begins v o H) (h1 : H s.heap)
    (h : ∀ h', IsEnum h' (s.heap.objs.size + 1) s.heap.objs.size 0 .none → h'.get? s.heap.objs.size = some o → h'.objs.size = s.heap.objs.size + 2 →
      (∀ b o, s.heap.get? b = some o → h'.get? b = some o) → Q (.ref (s.heap.objs.size + 1)) { s with heap := h' }) :
    wpAny (model prog w) A (call (.type "enumerate") [v]) Q E s := by
  refine callType_new F.called_enumerate (by decide) (F.typeCall_enumerate_1 _) (F.newCall_enumerate_1 _) (fun obj => F.args_object_init_2 obj _) F.entry_enumerate_new
    (meets_enum1 B) ⟨h1, ?_⟩
  have hz : (s.heap.push o).objs.size = s.heap.objs.size + 1 := Heap.size_push ..
  show _ ∧ _
  rw [hz]
  have he : IsEnum ((s.heap.push o).push { cls := .type "enumerate", data := .fields #[.none, .bool false, .ref s.heap.objs.size, rawInt 0, .none, .none] }) (s.heap.objs.size + 1) s.heap.objs.size 0 .none := by
    have := Heap.get?_push_size (s.heap.push o) (o := { cls := .type "enumerate", data := .fields #[.none, .bool false, .ref s.heap.objs.size, rawInt 0, .none, .none] }) rfl
    rw [hz] at this; exact this
  refine ⟨⟨_, he, rfl⟩, h _ he (Heap.get?_push_of_some _ (Heap.get?_push_size _ B.free)) (by rw [Heap.size_push, hz]) fun b o x => Heap.get?_push_of_some _ (Heap.get?_push_of_some _ x)⟩
end
end EnT
end PySem

namespace EnT
open PySem PySem.Spec PyProof.Rows L2
/-- the tuple at a as it stands at each turn, each item in a new pair -/
def ItT (K : PySem.W.Frag) (a : Addr) : It :=
  ⟨fun i H => ∃ (xs : List V) (x : V), SqT K H a xs ∧ xs[i]? = some x, fun i H v H' => ∃ T x, v = .ref T ∧ H T = none ∧ H' = upd H T (.tup [.int (i : Nat), x]) ∧ ∀ xs, SqT K H a xs → xs[i]? = some x, fun i H => ∃ xs : List V, SqT K H a xs ∧ xs.length ≤ i⟩
theorem apart {h : Heap} {e it a : Addr} {i : Int} {old : Value} {items : Array Value} (he : IsEnum h e it i old) (ht : h.IsTuple a items) : e ≠ a := fun z => by
  subst z
  obtain ⟨o, ho, hc, _⟩ := ht
  have he' : h.get? e = some _ := he
  rw [he'] at ho
  cases ho
  simp at hc
theorem apart2 {h : Heap} {it a : Addr} {i : Nat} {items : Array Value} (he : h.IsTupleIter it a i) (ht : h.IsTuple a items) : a ≠ it := fun z => by
  subst z
  obtain ⟨o, ho, hc, _⟩ := ht
  obtain ⟨o', ho', hc', _⟩ := he
  rw [ho'] at ho
  cases ho
  rw [hc'] at hc
  simp at hc
theorem turn_enumT {P : Program} {w : World} {K : PySem.W.Frag} {elts : List Expr} {kk : Nat} {tpos : Pos} (a e it : Addr) :
    Turn P w K (.Tuple elts kk tpos) (ItT K a) [e, it] e (fun i h => (∃ old, IsEnum h e it ((i : Nat) : Int) old) ∧ h.IsTupleIter it a i ∧ e ≠ it) where
  mem := by simp
  obj := fun i h st b hb => by
    obtain ⟨⟨old, he⟩, ⟨o, ho, hc, hd⟩, _⟩ := st
    have e' : b = e ∨ b = it := by simpa using hb
    rcases e' with z | z
    · rw [z]; exact ⟨_, he, fun v q => nomatch q⟩
    · rw [z]; exact ⟨o, ho, fun v q => by rw [hd] at q; cases q⟩
  keep := fun i h h' st k => let ⟨⟨old, he⟩, hi, hne⟩ := st; ⟨⟨old, k e (by simp) _ he⟩, hi.at fun o q => k it (by simp) o q, hne⟩
  item := by
    intro X hP hw hK hc i pins s σ H E I hf st hg
    subst hP hw hK
    obtain ⟨⟨old, he⟩, hit, hne⟩ := st
    obtain ⟨xs, x, hq, hx⟩ := hg
    obtain ⟨its, rv, p, hz⟩ := I.tuple hq
    obtain ⟨u, hu, ru⟩ := rv.get hx
    have hT0 : s.heap.IsTuple a its.toArray := p
    have hel : e < s.heap.objs.size := Heap.lt_size he
    have hil : it < s.heap.objs.size := by obtain ⟨_, q, _⟩ := hit; exact Heap.lt_size q
    have hef : e ∉ [it, a] := fun z => by
      rcases List.mem_cons.mp z with z | z
      · exact hne z
      · exact apart he hT0 (List.mem_singleton.mp z)
    refine wpAny_pyNext_enum_itemD (Draws.tuple (A := X.A.in1) (I.ok.hd hc) it a (apart2 hit hT0) its.toArray) he ⟨hit, hT0⟩ (by have := (List.getElem?_eq_some_iff.mp hu).1; simpa using this) hne hef fun x' h' tk hx' ho hst hT hsz hk => ?_
    have hx2 : x' = u := by
      have : its[i]? = some x' := by simpa using hx'
      rw [hu] at this
      exact (Option.some.inj this).symm
    subst hx2
    refine ⟨_, rfl, wpAny_letOwnedTupleGo_enum (s := { s with heap := h', toks := tk + 1 }) ho fun h'' he' sb => ?_⟩
    have hT2 : h''.get? s.heap.objs.size = some { cls := .type "tuple", data := .seq #[.int i tk, x'] } := (sb.2 _ (Nat.ne_of_gt hel)).trans hT
    have new : ObjOk X.prog X.w (upd H s.heap.objs.size (.tup [.int (i : Nat), x])) h'' s.heap.objs.size (.tup [.int (i : Nat), x]) :=
      ⟨by show 2 ≤ sizeLine; decide, [.int i tk, x'], .cons ⟨_, rfl⟩ (.cons ru .nil), ⟨_, hT2, rfl, _, rfl⟩⟩
    have I1 : Inv X pins σ (upd H s.heap.objs.size (.tup [.int (i : Nat), x])) { s with heap := h'', toks := tk + 1 } :=
      I.turnedNew (ch := [e, it]) (fun b ob hb q => (sb.2 b (fun z => hb (by simp [z]))).trans (hk b ob (fun z => hb (by simp [z])) (fun z => hb (by simp [z])) q)) hf (Nat.le_refl _) new
    refine ⟨.ref s.heap.objs.size, _, I1, rfl, ⟨_, x, rfl, I.hok.fresh (Nat.le_refl _), rfl, fun ys hy => by rw [I.tuple_inj hy hq]; exact hx⟩, ⟨⟨x', ?_⟩, hst.1.at fun o q => (sb.2 it (Ne.symm hne)).trans q, hne⟩, fun b hb => ?_⟩
    · have e1 : ((i + 1 : Nat) : Int) = (i : Int) + 1 := by omega
      rw [e1]; exact he'
    · have hb' : b < s.heap.objs.size := by
        have e' : b = e ∨ b = it := by simpa using hb
        rcases e' with z | z
        · rw [z]; exact hel
        · rw [z]; exact hil
      rw [upd_ne (Nat.ne_of_lt hb')]
      exact (hf b hb).1
  done := by
    intro X hP hw hK hc i pins s σ H E I hf st hg
    subst hP hw hK
    obtain ⟨⟨old, he⟩, hit, hne⟩ := st
    obtain ⟨xs, hq, hx⟩ := hg
    obtain ⟨its, rv, p, hz⟩ := I.tuple hq
    obtain ⟨f0, f1, f2, f3, f4, f5⟩ := hf it (by simp)
    have hl := rv.length
    have hT0 : s.heap.IsTuple a its.toArray := p
    have hout : its.toArray[i]? = none := by simp; omega
    have hT : s.TypeIs (.ref e) "enumerate" := ⟨_, he, rfl⟩
    unfold pyNext
    refine wpAny_bind (wpAny_attempt (wpAny_callSpecial?_slot (name := Str.ofString "__next__") hT F.slot_enumerate_next
      (wpAny_call_entry F.slot_enumerate_next hT F.entry_enumerate_next ?_ (F.args_enumerate_next_1 _))))
    show wpAny _ _ (field (.ref e) 2 >>= _) _ _ _
    refine wpAny_bind (wpAny_field he rfl (x := .ref it) rfl ?_)
    refine wpAny_bind (wpAny_nextOf_tuple_end (I.ok.hd hc) hit hT0 hout fun h' x he' hx' => ?_)
    obtain ⟨o, ho, hc⟩ := hx'
    refine wpAny_bind (wpAny_isInstance (T := "StopIteration") (b := true) ⟨o, ho, hc⟩ isSubtype_stop ?_)
    exact wpAny_pure ⟨rfl, I.turned (t' := s.toks) (fun b o hb q => he' b o hb q) f0 f1 f3 f4 f5⟩
  self := fun A i s Q E st h => let ⟨⟨_, he⟩, _⟩ := st; wpAny_pyIter_enum he h
/-- enumerate of a list or of a tuple -/
def iEnumA (K : PySem.W.Frag) (ta : TA) : TI := fun σ H R => ta σ H fun vs H1 => (∃ a xs, vs = [.ref a] ∧ SqL K H1 a xs ∧ R (Ite K a) H1) ∨ ∃ a xs, vs = [.ref a] ∧ SqT K H1 a xs ∧ R (ItT K a) H1
theorem pi_enumA {X : Cx} {e : Expr} {ta : TA} {p pos tpos : Pos} {elts : List Expr} {kk : Nat} (hg : Gl X "enumerate") (hm : X.mg "enumerate" = none) (ha : PA X [e] ta) (hs : starEach [e] X.env = [(false, eval e X.env)] := by rfl) :
    PI X (.Tuple elts kk tpos) (.Call (.Name "enumerate" p) [e] [] pos) (iEnumA X.K ta) := by
  refine ⟨fun pins s σ H R I h => ?_⟩
  refine Call_ (ld_blt I hg hm boot_enumerate (PyProof.Rows.callWith_type1 (thn (ha.run pos pins s σ H _ I h) fun us s1 ⟨vs, H1, I1, r1, q1⟩ => ?_) hs rfl))
  rcases q1 with ⟨a, xs, ex, hq, q⟩ | ⟨a, xs, ex, hq, q⟩
  · subst ex
    cases r1 with
    | cons r rr =>
      cases rr
      cases r
      obtain ⟨its, rv, p', hz⟩ := I1.list hq
      refine call_enumerate_list p'.isList fun h' he hit hsz hk => wpAny_pyIter_enum he ?_
      have I2 : Inv X pins σ H1 { s1 with heap := h' } := I1.kept (t' := s1.toks) hk
      refine ⟨s1.heap.objs.size + 1, [s1.heap.objs.size + 1, s1.heap.objs.size], _, _, H1, rfl, I2, turn_enum a (s1.heap.objs.size + 1) s1.heap.objs.size, ⟨⟨.none, he⟩, hit, Nat.succ_ne_self _⟩, fun b hb => ?_, q⟩
      have e' : b = s1.heap.objs.size + 1 ∨ b = s1.heap.objs.size := by simpa using hb
      have hle : s1.heap.objs.size ≤ b := by
        rcases e' with z | z
        · rw [z]; exact Nat.le_add_right _ _
        · rw [z]; exact Nat.le_refl _
      exact I1.fpOk hle (I1.hok.fresh hle)
  · subst ex
    cases r1 with
    | cons r rr =>
      cases rr
      cases r
      obtain ⟨its, rv, p', hz⟩ := I1.tuple hq
      refine PySem.EnT.call_enum1 (begins_tuple a its.toArray) p' fun h' he hit hsz hk => wpAny_pyIter_enum he ?_
      have I2 : Inv X pins σ H1 { s1 with heap := h' } := I1.kept (t' := s1.toks) hk
      refine ⟨s1.heap.objs.size + 1, [s1.heap.objs.size + 1, s1.heap.objs.size], _, _, H1, rfl, I2, turn_enumT a (s1.heap.objs.size + 1) s1.heap.objs.size, ⟨⟨.none, he⟩, ⟨_, hit, rfl, rfl⟩, Nat.succ_ne_self _⟩, fun b hb => ?_, q⟩
      have e' : b = s1.heap.objs.size + 1 ∨ b = s1.heap.objs.size := by simpa using hb
      have hle : s1.heap.objs.size ≤ b := by
        rcases e' with z | z
        · rw [z]; exact Nat.le_add_right _ _
        · rw [z]; exact Nat.le_refl _
      exact I1.fpOk hle (I1.hok.fresh hle)
end EnT

end
section
set_option Elab.async false
set_option linter.all false
set_option maxRecDepth 100000
set_option maxHeartbeats 4000000
/-! TupN: the rules that make tuples, with the object known to have no dict (so that its methods can be called). -/
namespace TupN
open PySem PySem.Spec PyProof.Rows L2
/-- the tuple's object -/
def ob (us : List Value) : Obj := { cls := .type "tuple", data := .seq us.toArray }
/-- a new tuple, its object known -/
def New (H : Hp) (Q : VK) (xs : List V) : Prop := ∀ (p : Addr) (us : List Value), H p = none → Q (.ref p) (upd H p (.frz (ob us) (.tup xs)))
section
variable {X : Cx} {pins : List (Addr × Obj)} {σ : L2.St} {H : Hp} {s : Shared}
theorem laid (I : Inv X pins σ H s) {xs : List V} {us : List Value} {Q : VK} {tk : Nat} (r : Vals xs us) (hz : xs.length ≤ sizeLine) (q : New H Q xs) :
    EP X pins σ Q (.ref s.heap.objs.size) { s with heap := s.heap.push { cls := .type "tuple", data := .seq us.toArray }, toks := tk } := by
  refine ⟨.ref s.heap.objs.size, _, I.laid (t' := tk) (o := .frz (ob us) (.tup xs)) (fun b u e => Heap.get?_push_of_some _ e) (Nat.le_refl _) ?_, rfl, q _ us (I.hok.fresh (Nat.le_refl _))⟩
  have e := Heap.get?_push_size s.heap (o := ob us) rfl
  exact ⟨e, hz, us, r, _, e, rfl, _, rfl⟩
variable {es : List Expr} {t : TA} {pos : Pos}
def tTupN (t : TA) : TE := fun σ H Q => t σ H fun xs H1 => xs.length ≤ sizeLine ∧ New H1 Q xs
theorem pe_tupN {x1} (h : PA X es t) : PE X (.Tuple es x1 pos) (tTupN t) :=
  ⟨fun pins s σ H Q I hq => wpAny_Tuple_spliced (thn (h.run pos pins s σ H _ I hq) fun us s1 w => by
    obtain ⟨xs, H1, I1, r, z, q⟩ := w
    have lz : us.length ≤ sizeLine := by rw [← r.length]; exact z
    exact ⟨lz, laid I1 r z q⟩)⟩
def rTupleN (K : PySem.W.Frag) : List V → Hp → VK → Prop := fun xs H Q => ∃ p ys, xs = [.ref p] ∧ ((SqL K H p ys ∧ New H Q ys) ∨ (SqT K H p ys ∧ Q (.ref p) H))
theorem call_tupleN : CallR X (.type "tuple") (rTupleN X.K) := by
  rintro pins s σ H xs us Q I r ⟨p, ys, rfl, h⟩
  obtain ⟨u, rfl, rx⟩ := vals1 r
  cases rx
  cases h with
  | inr h =>
    obtain ⟨its, _, pl, _⟩ := I.tuple h.1
    exact call_tuple_same pl ⟨.ref p, H, I, rfl, h.2⟩
  | inl h =>
    obtain ⟨its, r2, pl, hz⟩ := I.list h.1
    have hlen := r2.length
    refine call_tuple_list pl.isList (fun h' kp => ?_) (by rw [List.size_toArray]; omega)
    exact laid (s := { s with heap := h' }) (I.kept (t' := s.toks) kp) r2 hz h.2
def rCatN (K : PySem.W.Frag) : R2 := fun x y H Q => ∃ a b xs ys, x = .ref a ∧ y = .ref b ∧ SqT K H a xs ∧ SqT K H b ys ∧ xs.length + ys.length ≤ sizeLine ∧
  (xs = [] → Q (.ref b) H) ∧ (xs ≠ [] → ys = [] → Q (.ref a) H) ∧ (xs ≠ [] → ys ≠ [] → New H Q (xs ++ ys))
theorem op_catN : OpR X (binaryOp .Add) (rCatN X.K) := by
  rintro pins s σ H x y v u Q I rx ry ⟨a, b, xs, ys, rfl, rfl, ha, hb, hz, q0, q1, q2⟩
  cases rx
  cases ry
  obtain ⟨its, r1, p1, _⟩ := I.tuple ha
  obtain ⟨its2, r2, p2, _⟩ := I.tuple hb
  by_cases e1 : xs = []
  · have e2 := r1.nil_iff.mpr e1
    subst e2
    exact cat_tup0 p1 p2 ⟨.ref b, H, I, rfl, q0 e1⟩
  · have e2 : its ≠ [] := fun z => e1 (r1.nil_iff.mp z)
    refine HT.cat_tup p1 p2 e2 (fun z => ⟨.ref a, H, I, rfl, q1 e1 (r2.nil_iff.mp z)⟩) (fun z => ?_) (by rw [← r1.length, ← r2.length]; exact hz)
    exact laid I (r1.append r2) (by rw [List.length_append]; exact hz) (q2 e1 fun w => z (r2.nil_iff.mpr w))
def rSlN (K : PySem.W.Frag) : V → Option Int → Option Int → Hp → VK → Prop := fun x lo hi H Q => ∃ a xs, x = .ref a ∧ SqT K H a xs ∧
  (HT.sIx xs.length 0 lo = 0 ∧ HT.sIx xs.length xs.length hi = xs.length → Q (.ref a) H) ∧ (¬ (HT.sIx xs.length 0 lo = 0 ∧ HT.sIx xs.length xs.length hi = xs.length) → New H Q (cutV xs lo hi))
theorem sl_N : SlR X (rSlN X.K) := by
  rintro pins s σ H x v vl vu lo hi sl Q I rx hs pl pu ⟨a, xs, rfl, hx, q1, q2⟩
  cases rx
  obtain ⟨its, r, ht, hz⟩ := I.tuple hx
  have hlen : its.toArray.size = xs.length := by rw [List.size_toArray]; exact r.length.symm
  refine ⟨"tuple", _, PyProof.Rows.slot_tuple_getitem.lookup, ht.typeIs, ?_⟩
  by_cases hw : HT.sIx xs.length 0 lo = 0 ∧ HT.sIx xs.length xs.length hi = xs.length
  · exact getItem_tuple_whole ht hs pl pu (by rw [hlen]; exact hw) ⟨.ref a, H, I, rfl, q1 hw⟩
  · refine HT.getItem_tuple_cut ht hs pl pu (by rw [hlen]; exact hw) ?_ (by rw [hlen]; exact hz)
    rw [hlen]
    exact laid I ((r.drop (HT.sIx xs.length 0 lo)).take (HT.sIx xs.length xs.length hi - HT.sIx xs.length 0 lo)) (Nat.le_trans (cutV_length xs lo hi) hz) (q2 hw)
def rRepN (K : PySem.W.Frag) : R2 := fun x y H Q => ∃ l k xs, x = .ref l ∧ y = .int k ∧ SqT K H l xs ∧ xs ≠ [] ∧ 2 ≤ k ∧ k ≤ 1000 ∧ xs.length ≤ 1000 ∧ New H Q (List.replicate k.toNat xs).flatten
theorem op_repN : OpR X (binaryOp .Mult) (rRepN X.K) := by
  rintro pins s σ H x y v u Q I rx ry ⟨l, k, xs, rfl, rfl, hT, hne, h1, h2, hz, q⟩
  cases rx
  obtain ⟨t, rfl⟩ := ry
  obtain ⟨its, r, ⟨⟨cls, dd, data, sl⟩, ho, hc, n, hd⟩, _⟩ := I.tuple hT
  cases (show cls = .type "tuple" from hc)
  cases (show data = .seq its.toArray n from hd)
  have len : its.length = xs.length := r.length.symm
  have full : its ≠ [] := fun z => hne (r.nil_iff.mp z)
  have notE : its.toArray.isEmpty = false := by
    match its, full with
    | _ :: _, _ => rfl
  have sz : its.toArray.size = xs.length := by rw [List.size_toArray, len]
  have bound : k.toNat * xs.length ≤ sizeLine := Nat.le_trans (Nat.mul_le_mul (show k.toNat ≤ 1000 by omega) hz) (by rw [sizeLine_eq]; decide)
  have prod : ((its.toArray.size : Nat) : Int) * k ≤ 1000000 := by
    rw [sz]
    exact Int.le_trans (Int.mul_le_mul_of_nonneg_right (show ((xs.length : Nat) : Int) ≤ 1000 by omega) (by omega)) (by omega)
  have g0 : (decide (k < -(2 ^ 63)) || decide (k ≥ 2 ^ 63)) = false := by
    rw [decide_eq_false (by omega : ¬ k < -(2 ^ 63)), decide_eq_false (by omega : ¬ k ≥ 2 ^ 63)]
    rfl
  have g1 : (its.toArray.isEmpty || k == 1) = false := by
    rw [notE, Bool.false_or, beq_eq_false_iff_ne]
    omega
  have g2 : (decide (k ≤ 0) || its.toArray.isEmpty) = false := by
    rw [notE, Bool.or_false, decide_eq_false_iff_not]
    omega
  have g3 : Builtin.Tuple.tupleTooMany (((its.toArray.size : Nat) : Int) * k) = false := by
    unfold Builtin.Tuple.tupleTooMany
    rw [sizeLine_eq, decide_eq_false_iff_not]
    omega
  have fl : (List.replicate k.toNat its).flatten.length ≤ sizeLine := by rw [PyProof.Rows.lm_len_rep_flat, len]; exact bound
  have fin : EP X pins σ Q (.ref s.heap.objs.size) { s with heap := s.heap.push { cls := .type "tuple", data := .seq (List.foldl (fun x1 x2 => x1 ++ x2) #[] (List.replicate k.toNat its.toArray)) } } := by
    rw [size_rep]
    exact laid I (r.rep k.toNat) (by rw [PyProof.Rows.lm_len_rep_flat]; exact bound) q
  exact wpAny_binaryOp_repeat_ref (T := "tuple") (U := "int") (by decide) ⟨_, ho, rfl⟩ (fun s' => typeIs_int s' k t) noFill_tuple_mul F.fills_int_mul F.slot_int_rmul repeat_tuple F.slot_int_index.lookup
    (call_meets F.slot_int_rmul (typeIs_int s k t) F.entry_int_rmul (F.args_int_rmul_2 _ _) (int_rmul_tuple k t l its.toArray n dd sl)
      ⟨ho, rfl, ⟨_, ho, rfl⟩, call_meets F.slot_tuple_mul ⟨_, ho, rfl⟩ F.entry_tuple_mul (F.args_tuple_mul_2 _ _) (tuple_mulW l its.toArray n dd sl k t g0 g1 g2 (by omega) g3 (by rw [size_rep, List.size_toArray]; exact fl)) ⟨ho, fin⟩⟩)
/-! ### t.index(x), xs.index(x) of ints -/
def rIdxT (K : PySem.W.Frag) : V → List V → Hp → VK → Prop := fun x xs H Q => ∃ p, ∃ ns : List Int, ∃ i : Int, x = .ref p ∧ xs = [.int i] ∧ SqT K H p (ns.map V.int) ∧ i ∈ ns ∧ Q (.int (ns.idxOf i : Nat)) H
theorem mt_idxT : MtR X "tuple.index" (rIdxT X.K) := by
  rintro pins s σ H x xs v us Q I rx rs ⟨p, ns, i, rfl, rfl, hq, hm, q⟩
  cases rx
  obtain ⟨u, rfl, t, rfl⟩ := vals1 rs
  obtain ⟨its, r, pl, _⟩ := I.tuple hq
  exact PySem.SeqAt.tuple_index_ints (show s.heap.IsTuple p its.toArray from pl) (intsAre_of r) hm ⟨.int (ns.idxOf i : Nat), H, I.tok _, ⟨_, rfl⟩, q⟩
def rIdxL (K : PySem.W.Frag) : V → List V → Hp → VK → Prop := fun x xs H Q => ∃ p, ∃ ns : List Int, ∃ i : Int, x = .ref p ∧ xs = [.int i] ∧ SqL K H p (ns.map V.int) ∧ i ∈ ns ∧ Q (.int (ns.idxOf i : Nat)) H
theorem mt_idxL : MtR X "list.index" (rIdxL X.K) := by
  rintro pins s σ H x xs v us Q I rx rs ⟨p, ns, i, rfl, rfl, hq, hm, q⟩
  cases rx
  obtain ⟨u, rfl, t, rfl⟩ := vals1 rs
  obtain ⟨its, r, pl, hz⟩ := I.list hq
  exact PySem.SeqAt.list_index_ints pl.isList (intsAre_of r) (by rw [← List.length_map (f := V.int)]; exact hz) hm ⟨.int (ns.idxOf i : Nat), H, I.tok _, ⟨_, rfl⟩, q⟩
/-- the value x is a list, or a tuple whose object has no dict -/
def Meth (K : PySem.W.Frag) (T : String) (x : V) (H : Hp) : Prop := ∃ a, x = .ref a ∧ ((T = "list" ∧ ∃ xs, SqL K H a xs) ∨ (T = "tuple" ∧ ((∃ us xs, H a = some (.frz (ob us) (.tup xs))) ∨ ∃ o, K.lookup a = some o ∧ o.cls = .type "tuple" ∧ o.dict = none)))
theorem meth_is {T : String} {x : V} {v : Value} (I : Inv X pins σ H s) (r : RelV x v) (m : Meth X.K T x H) : s.TypeIs v T ∧ ∀ a, v = .ref a → ∃ ob, s.heap.get? a = some ob ∧ ob.dict = none := by
  obtain ⟨a, rfl, m⟩ := m
  cases r
  rcases m with ⟨rfl, xs, h⟩ | ⟨rfl, ⟨us, xs, h⟩ | ⟨o, h1, h2, h3⟩⟩
  · exact tyV_is (x := .ref a) (v := .ref a) I rfl (.inl ⟨rfl, xs, h⟩)
  · have e := (I.hok _ _ h).1
    exact ⟨⟨_, e, rfl⟩, fun b z => by cases z; exact ⟨_, e, rfl⟩⟩
  · have e := I.kIn _ _ h1
    exact ⟨⟨_, e, h2⟩, fun b z => by cases z; exact ⟨_, e, h3⟩⟩
variable {o e : Expr} {to : TE} {name : Str} {apos cpos : Pos}
/-- o.index(e), o a list or a tuple of ints -/
def tIdx (K : PySem.W.Frag) (to : TE) (t : TA) : TE := fun σ H Q => to σ H fun x H1 => (Meth K "list" x H1 ∧ t σ H1 fun xs H2 => rIdxL K x xs H2 Q) ∨ (Meth K "tuple" x H1 ∧ t σ H1 fun xs H2 => rIdxT K x xs H2 Q)
theorem pe_index (ho : PE X o to) (ha : PA X [e] t)
    (hbase : attributeBase o "index" X.env (eval o X.env) = eval o X.env := by rfl)
    (hfew : ((backTo cpos (starEach [e] X.env)).all (fun x => !x.1) && (backToKw cpos (keywordEach [] X.env)).all (fun x => x.1.isSome)
      && decide (([e] : List Expr).length + ([] : List Keyword).length + (if ([] : List Keyword).isEmpty then 0 else 1) < 30)) = true := by rfl)
    (hline : (apos.endLine == cpos.line) = true := by rfl) (hs : starEach [e] X.env = (false, eval e X.env) :: starEach [] X.env := by rfl) (hplain : (backTo cpos (starEach [] X.env)).any (·.1) = false := by rfl) :
    PE X (.Call (.Attribute o "index" apos) [e] [] cpos) (tIdx X.K to t) := by
  refine ⟨fun pins s σ H Q I h => wpAny_Call_method_late hbase hfew hline rfl (thn (ho.run pins s σ H _ I h) fun v s1 w => ?_)⟩
  obtain ⟨x, H1, I1, r1, w⟩ := w
  have go : ∀ {id : String} {r : V → List V → Hp → VK → Prop}, MtR X id r → (t σ H1 fun xs H2 => r x xs H2 Q) → wpAny (model X.prog X.w) X.A (callWith cpos (.builtin id) [v] (backTo cpos (starEach [e] X.env)) []) (EP X pins σ Q) X.xe s1 := by
    intro id r hm q1
    have hA := ha.run cpos pins s1 σ H1 _ I1 q1
    rw [hs] at hA ⊢
    refine Calls.callWith_builtin (by show (false || (backTo cpos (starEach [] X.env)).any (·.1)) = false; rw [hplain]; rfl) (Calls.evalArgs_plain ?_)
    exact thn hA fun us s2 ⟨vs, H2, I2, r2, q2⟩ => hm pins s2 σ H2 x vs v us Q I2 r1 r2 q2
  rcases w with ⟨m, q1⟩ | ⟨m, q1⟩
  · obtain ⟨h1, h2⟩ := meth_is I1 r1 m
    exact ⟨"list", _, PySem.F.plainAttrs_list, PySem.F.slot_list_index, PySem.F.type_list_index, h1, h2, go mt_idxL q1⟩
  · obtain ⟨h1, h2⟩ := meth_is I1 r1 m
    exact ⟨"tuple", _, PySem.F.plainAttrs_tuple, PySem.F.slot_tuple_index, PySem.F.type_tuple_index, h1, h2, go mt_idxT q1⟩
end
end TupN

end
section
set_option Elab.async false
set_option linter.all false
set_option maxRecDepth 100000
set_option maxHeartbeats 4000000
set_option autoImplicit false
/-! Eng, part A: a small language (expressions E, statements S), its values (PyData), and what a piece of it comes to. -/
namespace Eng
open PySem PySem.Spec PyProof.Rows L2

abbrev D := PyData
/-- stands for the law's state object -/
abbrev stTok : D := .dict [(.none, .none)]

/-- binary operators -/
inductive BOp where
  | add | sub | mul | fdiv | mod | shl | shr | band | bor | bxor | pow
  deriving DecidableEq
/-- comparisons -/
inductive COp where
  | eq | ne | lt | le | gt | ge | inn | nin
  deriving DecidableEq
/-- built-in functions of one argument (two for max2, min2) -/
inductive Bi where
  | len | tuple | list | sorted | sum | abs | int | bool | max | min | any | all
  deriving DecidableEq

/-- the test of any(test for x in ..), all(test for x in ..) -/
inductive QE where
  /-- the x of the walk -/
  | loc
  /-- a name of the def -/
  | var (i : Nat)
  | int (n : Int)
  | str (x : Str)
  | idx (a b : QE)
  | bin (op : BOp) (a b : QE)
  | cmp (op : COp) (a b : QE)
  | chain (o p : COp) (a b c : QE)
  | and (a b : QE)
  | or (a b : QE)
  | not (a : QE)
mutual
/-- expressions -/
inductive E where
  | var (i : Nat)
  /-- a name that may stand for a list or dict that is still being filled -/
  | bor (i : Nat)
  | glob (i : Nat)
  | const (c : D)
  | bin (op : BOp) (a b : E)
  | neg (a : E)
  | not (a : E)
  | and (a b : E)
  | or (a b : E)
  | cmp (op : COp) (a b : E)
  | isN (yes : Bool) (a : E)
  | chain (o p : COp) (a b c : E)
  | chain3 (o p q : COp) (a b c d : E)
  | ite (c a b : E)
  | tup (es : Es)
  | lst (es : Es)
  | idx (a b : E)
  | slice (a : E) (lo hi : OE)
  | bi (b : Bi) (a : E)
  | two (mx : Bool) (a b : E)
  | inst (a : E) (t : String)
  | bits (a : E)
  | din (yes : Bool) (k d : E)
  | dget (d k : E)
  | call (f : Nat) (es : Es)
  | comp (own : List (Str × Nat)) (tg : Tg) (it : It) (c : OE) (e : E)
  /-- a test: not a (yes), a; a a list or a tuple -/
  | emp (yes : Bool) (a : E)
  /-- a.index(b), ints -/
  | index (a b : E)
  /-- sorted(set(a)), a a tuple of ints, or a list of pairs -/
  | sset (a : E)
  /-- repr(a), a a tuple -/
  | repr (a : E)
  /-- {'k': e, ..}, the keys texts -/
  | dlit (ks : List Str) (es : Es)
  /-- any, all of a generator expression with one name -/
  | quant (al : Bool) (it : It) (q : QE)
  | comp2 (own : List (Str × Nat)) (tg : Tg) (it : It) (c : OE) (tg1 : Tg) (vs1 : List Nat) (it1 : It) (c1 : OE) (e : E)
inductive OE where
  | none
  | some (e : E)
inductive Es where
  | nil
  | cons (e : E) (es : Es)
/-- what is walked -/
inductive It where
  | seq (e : E)
  | rng1 (a : E)
  | rng2 (a b : E)
  | rng3 (a b c : E)
  | enum (e : E)
  | zip (a b : E)
  | rev (e : E)
/-- targets -/
inductive Tg where
  | name (i : Nat)
  | tup (ts : Tgs)
inductive Tgs where
  | nil
  | cons (t : Tg) (ts : Tgs)
end

/-- the state object of a law: the cells, the seed -/
abbrev Sta := Option (List Int × Int)
/-- an exception: its class, what it was made of -/
abbrev Exn := Nat × List D
inductive R (α : Type) where
  | ok (a : α) (st : Sta)
  | exc (e : Exn) (st : Sta)
  | bad
def R.bind {α β : Type} (r : R α) (k : α → Sta → R β) : R β :=
  match r with
  | .ok a st => k a st
  | .exc e st => .exc e st
  | .bad => .bad
@[simp] theorem R.bind_ok {α β : Type} {a : α} {st : Sta} {k : α → Sta → R β} : R.bind (.ok a st) k = k a st := rfl
@[simp] theorem R.bind_exc {α β : Type} {e : Exn} {st : Sta} {k : α → Sta → R β} : R.bind (.exc e st) k = .exc e st := rfl
@[simp] theorem R.bind_bad {α β : Type} {k : α → Sta → R β} : R.bind (.bad) k = .bad := rfl
def R.of {α : Type} (o : Option α) (st : Sta) : R α := match o with
  | some a => .ok a st
  | none => .bad
@[simp] theorem R.of_some {α : Type} {a : α} {st : Sta} : R.of (some a) st = .ok a st := rfl
@[simp] theorem R.of_none {α : Type} {st : Sta} : R.of (none : Option α) st = .bad := rfl

/-- what a name holds: nothing that is known; a value that stands still; a list or dict that this def alone fills -/
inductive Slot where
  | emp
  | val (d : D)
  | lst (ds : List D)
  | dic (kvs : List (Key × D))

abbrev Env := List Slot

/-! ### operators on values -/
def addD : D → D → Option D
  | .int i, .int j => some (.int (i + j))
  | .list xs, .list ys => if xs.length + ys.length ≤ sizeLine then some (.list (xs ++ ys)) else none
  | .tuple xs, .tuple ys => if xs.length + ys.length ≤ sizeLine then some (.tuple (xs ++ ys)) else none
  | .str x, .str y => if x.length + y.length ≤ sizeLine then some (.str (x ++ y)) else none
  | _, _ => none
def mulD : D → D → Option D
  | .int i, .int j => if i.natAbs.log2 + j.natAbs.log2 < 1000000 then some (.int (i * j)) else none
  | .list xs, .int k => if -(2 ^ 63) ≤ k ∧ k < 2 ^ 63 ∧ xs.length * k.toNat ≤ sizeLine then some (.list (List.replicate k.toNat xs).flatten) else none
  | .tuple xs, .int k => if xs.isEmpty = false ∧ 2 ≤ k ∧ k ≤ 1000 ∧ xs.length ≤ 1000 then some (.tuple (List.replicate k.toNat xs).flatten) else none
  | _, _ => none
def intD (C : Int → Int → Bool) (g : Int → Int → Int) : D → D → Option D
  | .int i, .int j => if C i j then some (.int (g i j)) else none
  | _, _ => none
def binD : BOp → D → D → Option D
  | .add => addD
  | .sub => intD (fun _ _ => true) fun i j => i - j
  | .mul => mulD
  | .fdiv => intD (fun _ j => decide (0 < j ∧ j.natAbs.log2 < 9000)) fun i j => i / j
  | .mod => intD (fun _ j => decide (0 < j)) fun i j => i % j
  | .shl => intD (fun i j => decide (0 ≤ j ∧ (Builtin.Int.intBits i : Int) + j ≤ 2 ^ 27)) fun i j => i * 2 ^ j.toNat
  | .shr => intD (fun _ j => decide (0 ≤ j)) fun i j => i / 2 ^ j.toNat
  | .band => intD (fun _ _ => true) Builtin.bitAnd
  | .bor => intD (fun _ _ => true) Builtin.bitOr
  | .bxor => intD (fun _ _ => true) Builtin.bitXor
  | .pow => intD (fun i j => decide (0 ≤ j ∧ j ≤ 1000000 ∧ i.natAbs < 2 ^ 64)) fun i j => i ^ j.toNat
def intsD : List D → Option (List Int)
  | [] => some []
  | .int i :: r => (intsD r).map (i :: ·)
  | _ :: _ => none
def boolsD : List D → Option (List Bool)
  | [] => some []
  | .bool i :: r => (boolsD r).map (i :: ·)
  | _ :: _ => none
def eqD (d e : D) : Option Bool := if SeqAt.shaped d && SeqAt.shaped e then some (PyData.eqv d e) else none
def inD (d : D) : D → Option Bool
  | .list ds => if SeqAt.shaped d && SeqAt.shaped (.list ds) then some (ds.any fun z => PyData.eqv z d) else none
  | .tuple ds => match d with
    | .int _ | .str _ | .bool _ | .none => if ds.all (fun | .int _ | .str _ | .bool _ | .none => true | _ => false) then some (ds.any fun z => PyData.eqv z d) else none
    | _ => none
  | _ => none
def ordD (pi : Int → Int → Bool) (pl : Option (List Int → List Int → Bool)) : D → D → Option Bool
  | .int i, .int j => some (pi i j)
  | .tuple xs, .tuple ys => match pl, intsD xs, intsD ys with
    | some p, some ns, some ms => some (p ns ms)
    | _, _, _ => none
  | _, _ => none
def cmpD : COp → D → D → Option Bool
  | .eq => eqD
  | .ne => fun d e => (eqD d e).map (!·)
  | .lt => ordD (fun i j => decide (i < j)) (some HT.lexLt)
  | .le => ordD (fun i j => decide (i ≤ j)) none
  | .gt => ordD (fun i j => decide (j < i)) (some fun a b => HT.lexLt b a)
  | .ge => ordD (fun i j => decide (j ≤ i)) none
  | .inn => inD
  | .nin => fun d e => (inD d e).map (!·)
def idxD : D → D → Option D
  | .list xs, .int i => atI xs i
  | .tuple xs, .int i => atI xs i
  | .str z, .int i => if z.length ≤ sizeLine then (atI z.cps.toList i).map fun c => .str ⟨#[c]⟩ else none
  | _, _ => none
def cutD (xs : List D) (lo hi : Option Int) : List D := (xs.drop (HT.sIx xs.length 0 lo)).take (HT.sIx xs.length xs.length hi - HT.sIx xs.length 0 lo)
def sliceD : D → Option Int → Option Int → Option D
  | .list xs, lo, hi => some (.list (cutD xs lo hi))
  | .tuple xs, lo, hi => some (.tuple (cutD xs lo hi))
  | _, _, _ => none
def isort : List Int → List Int
  | [] => []
  | x :: xs => ins x (isort xs)
where ins (x : Int) : List Int → List Int
  | [] => [x]
  | y :: ys => if x ≤ y then x :: y :: ys else y :: ins x ys
def maxL : List Int → Option Int
  | [] => none
  | x :: xs => some (xs.foldl (fun m y => if y > m then y else m) x)
def minL : List Int → Option Int
  | [] => none
  | x :: xs => some (xs.foldl (fun m y => if y < m then y else m) x)
def keyD : D → Option Key
  | .int i => some (.inl i)
  | .str x => some (.inr x)
  | _ => none
def dKvs : List (D × D) → Option (List (Key × D))
  | [] => some []
  | (k, d) :: r => match keyD k, dKvs r with
    | some k, some r => some ((k, d) :: r)
    | _, _ => none
def biD : Bi → D → Option D
  | .len, .list xs => some (.int xs.length)
  | .len, .tuple xs => some (.int xs.length)
  | .len, .dict kvs => (dKvs kvs).map fun l => .int l.length
  | .len, .str x => if x.length ≤ sizeLine then some (.int x.length) else none
  | .tuple, .list xs => some (.tuple xs)
  | .tuple, .tuple xs => some (.tuple xs)
  | .list, .list xs => some (.list xs)
  | .list, .tuple xs => some (.list xs)
  | .sorted, .list xs => (intsD xs).map fun ns => .list ((isort ns).map .int)
  | .sum, .list xs => (intsD xs).map fun ns => .int ns.sum
  | .max, .list xs => (intsD xs).bind fun ns => (maxL ns).map .int
  | .min, .list xs => (intsD xs).bind fun ns => (minL ns).map .int
  | .any, .list xs => (boolsD xs).map fun bs => .bool (bs.any id)
  | .all, .list xs => (boolsD xs).map fun bs => .bool (bs.all id)
  | .abs, .int i => some (.int (if i < 0 then -i else i))
  | .int, .int i => some (.int i)
  | .int, .bool b => some (.int (if b then 1 else 0))
  | .bool, .bool b => some (.bool b)
  | .bool, .int i => some (.bool (i != 0))
  | _, _ => none
def tyD : D → String
  | .none => "NoneType"
  | .bool _ => "bool"
  | .int _ => "int"
  | .str _ => "str"
  | .list _ => "list"
  | .tuple _ => "tuple"
  | .dict _ => "dict"
def instT (s t : String) : Bool := s == t || (t == "int" && s == "bool")
def instD (d : D) (t : String) : Bool := instT (tyD d) t
/-- no list and no dict in it -/
def noLD : D → Bool
  | .list _ | .dict _ => false
  | .tuple xs => noLDs xs
  | _ => true
where noLDs : List D → Bool
  | [] => true
  | x :: xs => noLD x && noLDs xs

def valK (kvs : List (Key × D)) (k : Key) : Option D := (kvs.find? fun kv => decide (kv.1 = k)).map (·.2)
def dinD : D → D → Option Bool
  | k, .dict kvs => match keyD k, dKvs kvs with
    | some k, some kvs => some (valK kvs k).isSome
    | _, _ => none
  | _, _ => none
def dgetD : D → D → Option D
  | .dict kvs, k => match keyD k, dKvs kvs with
    | some k, some kvs => valK kvs k
    | _, _ => none
  | _, _ => none
/-- a value given to a target -/
def bindTg : Tg → D → Env → Option Env
  | .name i, d, ρ => if i < ρ.length then some (ρ.set i (.val d)) else none
  | .tup ts, d, ρ => match d with
    | .tuple ds => bindTgs ts ds ρ
    | .list ds => bindTgs ts ds ρ
    | _ => none
where bindTgs : Tgs → List D → Env → Option Env
  | .nil, [], ρ => some ρ
  | .cons t ts, d :: ds, ρ => (bindTg t d ρ).bind (bindTgs ts ds)
  | _, _, _ => none
def wipeE (ρ : Env) : List Nat → Env
  | [] => ρ
  | v :: vs => (wipeE ρ vs).set v .emp

def rangeD (lo c : Int) (n : Nat) : List D := (List.range n).map fun i => .int (lo + (i : Nat) * c)
def enumD (i : Nat) : List D → List D
  | [] => []
  | d :: ds => .tuple [.int i, d] :: enumD (i + 1) ds
def zipD : List D → List D → List D
  | x :: xs, y :: ys => .tuple [x, y] :: zipD xs ys
  | _, _ => []
def smallI (i : Int) : Bool := decide (-(2 ^ 62) ≤ i ∧ i < 2 ^ 62)
def seqD : D → Option (List D)
  | .list xs => some xs
  | .tuple xs => some xs
  | _ => none

/-- the turns of a comprehension -/
def compRun (turn : D → Sta → R (Option D)) : List D → List D → Sta → R (List D)
  | [], acc, st => .ok acc st
  | x :: xs, acc, st => (turn x st).bind fun o st => match o with
    | some d => if acc.length < sizeLine then compRun turn xs (acc ++ [d]) st else .bad
    | none => compRun turn xs acc st
/-- two clauses -/
def compRun2 (turn : D → List D → Sta → R (List D)) : List D → List D → Sta → R (List D)
  | [], acc, st => .ok acc st
  | x :: xs, acc, st => (turn x acc st).bind fun acc st => compRun2 turn xs acc st
/-- a comprehension lets no exception out -/
def noExc {α : Type} : R α → R α
  | .ok a st => .ok a st
  | _ => .bad

def kvD : Key × D → D × D
  | (.inl i, d) => (.int i, d)
  | (.inr x, d) => (.str x, d)
def dictD (kvs : List (Key × D)) : D := .dict (kvs.map kvD)
def isBor : E → Bool
  | .bor _ => true
  | _ => false
/-- is it a name of a list or dict that is being filled? -/
def ownB (ρ : Env) : E → Bool
  | .bor i => match ρ[i]? with
    | some (.lst _) => true
    | some (.dic _) => true
    | _ => false
  | _ => false
def dedupL : List Int → List Int
  | [] => []
  | x :: xs => if x ∈ xs then dedupL xs else x :: dedupL xs
/-- the members of a set of ints, sorted -/
def ssetL (ns : List Int) : List Int := isort (dedupL ns)
/-- pairs of small numbers -/
def pairsD : List D → Option (List (Int × Int))
  | [] => some []
  | .tuple [.int a, .int b] :: ds => if 0 ≤ a ∧ a < 64 ∧ 0 ≤ b ∧ b < 64 then (pairsD ds).map ((a, b) :: ·) else none
  | _ => none
def ltP (p q : Int × Int) : Bool := decide (p.1 < q.1 ∨ p.1 = q.1 ∧ p.2 < q.2)
def insP (p : Int × Int) : List (Int × Int) → List (Int × Int)
  | [] => [p]
  | q :: l => if ltP p q then p :: q :: l else if p = q then q :: l else q :: insP p l
/-- a set of pairs, sorted -/
def ssetP (ps : List (Int × Int)) : List (Int × Int) := ps.foldr insP []
def pairD (p : Int × Int) : D := .tuple [.int p.1, .int p.2]
def seqB : D → Bool
  | .list _ => true
  | .tuple _ => true
  | _ => false
def indexD : D → D → Option D
  | .list xs, .int i => (intsD xs).bind fun ns => if i ∈ ns then some (.int (ns.idxOf i : Nat)) else none
  | .tuple xs, .int i => (intsD xs).bind fun ns => if i ∈ ns then some (.int (ns.idxOf i : Nat)) else none
  | _, _ => none
def reprD (d : D) : Option D := match d with
  | .tuple _ => if d.canLay0 && d.showable && !d.hasDict && decide (d.depth ≤ 60) && decide (d.shown.length ≤ sizeLine) then some (.str d.shown) else none
  | _ => none
def ssetD : D → Option D
  | .list xs => (pairsD xs).bind fun ps => if ps.length < 64 then some (.list ((ssetP ps).map pairD)) else none
  | .tuple xs => (intsD xs).bind fun ns => if ns.length ≤ 60 then some (.list ((ssetL ns).map .int)) else none
  | _ => none
/-- the pairs of a display -/
def dlitD (ks : List Str) (ds : List D) : Option D := if ks.length = ds.length ∧ 0 < ks.length ∧ ks.length ≤ 15 ∧ ks.Nodup then some (dictD ((ks.zip ds).map fun p => (.inr p.1, p.2))) else none
/-! ### tests of a generator expression -/
def idxQ : D → D → Option D
  | .list xs, .int i => if xs.length ≤ sizeLine then atI xs i else none
  | .tuple xs, .int i => if xs.length ≤ sizeLine then atI xs i else none
  | _, _ => none
def binQ : BOp → D → D → Option D
  | .add, .int i, .int j => some (.int (i + j))
  | .sub, .int i, .int j => some (.int (i - j))
  | .mod, .int i, .int j => if 0 < j then some (.int (i % j)) else none
  | _, _, _ => none
def inQ (d : D) : D → Option Bool
  | .list ds => if SeqAt.shaped d && SeqAt.shaped (.list ds) then some (ds.any fun z => PyData.eqv z d) else none
  | .tuple ds => if SeqAt.shaped d && SeqAt.shaped (.tuple ds) then some (ds.any fun z => PyData.eqv z d) else none
  | _ => none
def ordQ (p : Int → Int → Bool) : D → D → Option Bool
  | .int i, .int j => some (p i j)
  | _, _ => none
def cmpQ : COp → D → D → Option Bool
  | .eq, d, e => eqD d e
  | .ne, d, e => (eqD d e).map (!·)
  | .lt, d, e => ordQ (fun i j => decide (i < j)) d e
  | .le, d, e => ordQ (fun i j => decide (i ≤ j)) d e
  | .gt, d, e => ordQ (fun i j => decide (j < i)) d e
  | .ge, d, e => ordQ (fun i j => decide (j ≤ i)) d e
  | .inn, d, e => inQ d e
  | .nin, d, e => (inQ d e).map (!·)
/-- the test's value at x -/
def qev (ρ : Env) (x : D) : QE → Option D
  | .loc => some x
  | .var i => match ρ[i]? with
    | some (.val d) => if d.canLay0 then some d else none
    | _ => none
  | .int n => some (.int n)
  | .str y => some (.str y)
  | .idx a b => (qev ρ x a).bind fun d => (qev ρ x b).bind fun e => idxQ d e
  | .bin op a b => (qev ρ x a).bind fun d => (qev ρ x b).bind fun e => binQ op d e
  | .cmp op a b => (qev ρ x a).bind fun d => (qev ρ x b).bind fun e => (cmpQ op d e).map .bool
  | .chain o p a b c => (qev ρ x a).bind fun d => (qev ρ x b).bind fun e => (cmpQ o d e).bind fun k => if k then (qev ρ x c).bind fun f => (cmpQ p e f).map .bool else some (.bool false)
  | .and a b => (qev ρ x a).bind fun d => match d with
    | .bool true => qev ρ x b
    | .bool false => some (.bool false)
    | _ => none
  | .or a b => (qev ρ x a).bind fun d => match d with
    | .bool true => some (.bool true)
    | .bool false => qev ρ x b
    | _ => none
  | .not a => (qev ρ x a).bind fun d => match d with
    | .bool b => some (.bool (!b))
    | _ => none
/-- all tests, each of them a truth value -/
def qevs (ρ : Env) (q : QE) : List D → Option (List Bool)
  | [] => some []
  | x :: xs => match x.canLay0, qev ρ x q, qevs ρ q xs with
    | true, some (.bool b), some bs => some (b :: bs)
    | _, _, _ => none
/-- the defs: what a call comes to -/
abbrev Calls := Nat → List D → Sta → R D

section
variable (cl : Calls) (gl : List D)
mutual
def ev (ρ : Env) (o : Bool) : E → Sta → R D
  | .var i, st => match ρ[i]? with
    | some (.val d) => .ok d st
    | _ => .bad
  | .bor i, st => match ρ[i]? with
    | some (.val d) => .ok d st
    | some (.lst ds) => if o then .ok (.list ds) st else .bad
    | some (.dic kvs) => if o then .ok (dictD kvs) st else .bad
    | _ => .bad
  | .glob i, st => R.of gl[i]? st
  | .const c, st => .ok c st
  | .bin op a b, st => (ev ρ true a st).bind fun x st => (ev ρ true b st).bind fun y st => R.of (binD op x y) st
  | .neg a, st => (ev ρ false a st).bind fun x st => match x with
    | .int i => .ok (.int (-i)) st
    | _ => .bad
  | .not a, st => (ev ρ false a st).bind fun x st => match x with
    | .bool b => .ok (.bool (!b)) st
    | _ => .bad
  | .and a b, st => (ev ρ false a st).bind fun x st => match x with
    | .bool true => ev ρ false b st
    | .bool false => .ok (.bool false) st
    | _ => .bad
  | .or a b, st => (ev ρ false a st).bind fun x st => match x with
    | .bool true => .ok (.bool true) st
    | .bool false => ev ρ false b st
    | _ => .bad
  | .cmp op a b, st => (ev ρ true a st).bind fun x st => (ev ρ true b st).bind fun y st => R.of ((cmpD op x y).map .bool) st
  | .isN yes a, st => (ev ρ false a st).bind fun x st => match x with
    | .none => .ok (.bool yes) st
    | _ => .ok (.bool (!yes)) st
  | .chain o p a b c, st => (ev ρ true a st).bind fun x st => (ev ρ true b st).bind fun y st => (R.of (cmpD o x y) st).bind fun k st =>
      if k then (ev ρ true c st).bind fun z st => R.of ((cmpD p y z).map .bool) st else .ok (.bool false) st
  | .chain3 o p q a b c e, st => (ev ρ true a st).bind fun x st => (ev ρ true b st).bind fun y st => (R.of (cmpD o x y) st).bind fun k st =>
      if k then (ev ρ true c st).bind fun z st => (R.of (cmpD p y z) st).bind fun k st => if k then (ev ρ true e st).bind fun w st => R.of ((cmpD q z w).map .bool) st else .ok (.bool false) st else .ok (.bool false) st
  | .ite c a b, st => (ev ρ false c st).bind fun x st => match x with
    | .bool true => ev ρ false a st
    | .bool false => ev ρ false b st
    | _ => .bad
  | .tup es, st => (evs ρ es st).bind fun ds st => if ds.length ≤ sizeLine then .ok (.tuple ds) st else .bad
  | .lst es, st => (evs ρ es st).bind fun ds st => if ds.length ≤ sizeLine then .ok (.list ds) st else .bad
  | .idx a b, st => (ev ρ true a st).bind fun x st => (ev ρ false b st).bind fun y st => R.of (idxD x y) st
  | .slice a lo hi, st => (ev ρ true a st).bind fun x st => (evPart ρ lo st).bind fun l st => (evPart ρ hi st).bind fun h st => R.of (sliceD x l h) st
  | .bi b a, st => (ev ρ true a st).bind fun x st => R.of (biD b x) st
  | .two mx a b, st => (ev ρ false a st).bind fun x st => (ev ρ false b st).bind fun y st => match x, y with
    | .int i, .int j => .ok (.int (if mx then (if j > i then j else i) else (if j < i then j else i))) st
    | _, _ => .bad
  | .inst a t, st => (ev ρ true a st).bind fun x st => if tyD x = "dict" then .bad else .ok (.bool (instD x t)) st
  | .bits a, st => (ev ρ false a st).bind fun x st => match x with
    | .int i => .ok (.int (Builtin.Int.intBits i : Nat)) st
    | _ => .bad
  | .din yes k d, st => (ev ρ false k st).bind fun x st => (ev ρ true d st).bind fun y st => R.of ((dinD x y).map fun b => .bool (b == yes)) st
  | .dget d k, st => (ev ρ true d st).bind fun x st => (ev ρ false k st).bind fun y st => R.of (dgetD x y) st
  | .call f es, st => (evArgs ρ es st).bind fun p st => (cl f p.1 st).bind fun d st => if p.2 && !noLD d then .bad else .ok d st
  | .comp own tg it c e, st => (evIt ρ true it st).bind fun xs st => noExc <| (compRun (fun x st =>
      match bindTg tg x (wipeE ρ (own.map (·.2))) with
      | some ρ' => (evIf ρ' c st).bind fun b st => if b then (ev ρ' false e st).bind fun d st => .ok (some d) st else .ok none st
      | none => .bad) xs [] st).bind fun ds st => .ok (.list ds) st
  | .sset a, st => (ev ρ true a st).bind fun x st => R.of (ssetD x) st
  | .repr a, st => (ev ρ false a st).bind fun x st => R.of (reprD x) st
  | .emp yes a, st => (ev ρ true a st).bind fun x st => match x with
    | .list xs => .ok (.bool (xs.isEmpty == yes)) st
    | .tuple xs => .ok (.bool (xs.isEmpty == yes)) st
    | _ => .bad
  | .index a b, st => (ev ρ true a st).bind fun x st => if seqB x then (ev ρ false b st).bind fun y st => R.of (indexD x y) st else .bad
  | .dlit ks es, st => (evs ρ es st).bind fun ds st => R.of (dlitD ks ds) st
  | .quant al it q, st => (evIt ρ true it st).bind fun xs st => R.of ((qevs ρ q xs).map fun bs => .bool (if al then bs.all id else bs.any id)) st
  | .comp2 own tg it c tg1 vs1 it1 c1 e, st => (evIt ρ true it st).bind fun xs st => noExc <| (compRun2 (fun x acc st =>
      match bindTg tg x (wipeE ρ (own.map (·.2))) with
      | some ρ' => (evIf ρ' c st).bind fun b st => if b then (evIt ρ' true it1 st).bind fun ys st => compRun (fun y st =>
          match bindTg tg1 y (wipeE ρ' vs1) with
          | some ρ' => (evIf ρ' c1 st).bind fun b st => if b then (ev ρ' false e st).bind fun d st => .ok (some d) st else .ok none st
          | none => .bad) ys acc st else .ok acc st
      | none => .bad) xs [] st).bind fun ds st => .ok (.list ds) st
def evs (ρ : Env) : Es → Sta → R (List D)
  | .nil, st => .ok [] st
  | .cons e es, st => (ev ρ false e st).bind fun d st => (evs ρ es st).bind fun ds st => .ok (d :: ds) st
def evArgs (ρ : Env) : Es → Sta → R (List D × Bool)
  | .nil, st => .ok ([], false) st
  | .cons e es, st => (ev ρ (isBor e) e st).bind fun d st => (evArgs ρ es st).bind fun p st => .ok (d :: p.1, ownB ρ e || p.2) st
def evPart (ρ : Env) : OE → Sta → R (Option Int)
  | .none, st => .ok none st
  | .some e, st => (ev ρ false e st).bind fun x st => match x with
    | .int i => .ok (some i) st
    | _ => .bad
def evIf (ρ : Env) : OE → Sta → R Bool
  | .none, st => .ok true st
  | .some e, st => (ev ρ false e st).bind fun x st => match x with
    | .bool b => .ok b st
    | _ => .bad
def evIt (ρ : Env) (o : Bool) : It → Sta → R (List D)
  | .seq e, st => (ev ρ o e st).bind fun x st => R.of (seqD x) st
  | .rng1 a, st => (ev ρ false a st).bind fun x st => match x with
    | .int j => if smallI j then .ok (rangeD 0 1 j.toNat) st else .bad
    | _ => .bad
  | .rng2 a b, st => (ev ρ false a st).bind fun x st => (ev ρ false b st).bind fun y st => match x, y with
    | .int i, .int j => if smallI i && smallI j then .ok (rangeD i 1 (j - i).toNat) st else .bad
    | _, _ => .bad
  | .rng3 a b c, st => (ev ρ false a st).bind fun x st => (ev ρ false b st).bind fun y st => (ev ρ false c st).bind fun z st => match x, y, z with
    | .int i, .int j, .int c => if smallI i && smallI j && decide (c = -1) then .ok (rangeD i (-1) (i - j).toNat) st else .bad
    | _, _, _ => .bad
  | .enum e, st => (ev ρ o e st).bind fun x st => match x with
    | .list xs => .ok (enumD 0 xs) st
    | .tuple xs => .ok (enumD 0 xs) st
    | _ => .bad
  | .zip a b, st => (ev ρ o a st).bind fun x st => (ev ρ o b st).bind fun y st => match x, y with
    | .list xs, .list ys => .ok (zipD xs ys) st
    | .tuple xs, .tuple ys => .ok (zipD xs ys) st
    | _, _ => .bad
  | .rev e, st => (ev ρ o e st).bind fun x st => R.of ((seqD x).map List.reverse) st
end
end
end Eng

end
section
set_option Elab.async false
set_option linter.all false
set_option maxRecDepth 100000
set_option maxHeartbeats 4000000
set_option autoImplicit false
/-! Eng, part B: how values stand in the heap; what a piece may change. -/
namespace Eng
open PySem PySem.Spec PyProof.Rows L2
/-- the law's state object; the tables of code objects of the defs that make generators -/
structure SA where
  st : Option (Addr × Addr)
  tb : List Addr

def kD : Key → D
  | .inl i => .int i
  | .inr x => .str x

section
variable (K : PySem.W.Frag) (sa : SA)
mutual
/-- the value v stands for d, over what stands still -/
inductive Rp (F : Hp) : V → D → Prop
  | non : Rp F .non .none
  | bl (b : Bool) : Rp F (.bl b) (.bool b)
  | int (i : Int) : Rp F (.int i) (.int i)
  | str (x : Str) : Rp F (.str x) (.str x)
  | lst {a : Addr} {xs : List V} {ds : List D} : F a = some (.lst xs) → RpA F xs ds → Rp F (.ref a) (.list ds)
  | tup {a : Addr} {us : List Value} {xs : List V} {ds : List D} : F a = some (.frz (TupN.ob us) (.tup xs)) → RpA F xs ds → Rp F (.ref a) (.tuple ds)
  | tupK {a : Addr} {xs : List V} {ds : List D} : SqT K (fun _ => none) a xs ∧ (∃ o, K.lookup a = some o ∧ o.cls = .type "tuple" ∧ o.dict = none) → RpA F xs ds → Rp F (.ref a) (.tuple ds)
  | dic {a : Addr} {kvs : List (Key × V)} {ds : List (Key × D)} : F a = some (.dK kvs) → RpK F kvs ds → Rp F (.ref a) (dictD ds)
  | sta {a c : Addr} : sa.st = some (a, c) → Rp F (.ref a) stTok
inductive RpA (F : Hp) : List V → List D → Prop
  | nil : RpA F [] []
  | cons {v : V} {vs : List V} {d : D} {ds : List D} : Rp F v d → RpA F vs ds → RpA F (v :: vs) (d :: ds)
inductive RpK (F : Hp) : List (Key × V) → List (Key × D) → Prop
  | nil : RpK F [] []
  | cons {k : Key} {v : V} {vs : List (Key × V)} {d : D} {ds : List (Key × D)} : Rp F v d → RpK F vs ds → RpK F ((k, v) :: vs) ((k, d) :: ds)
end
end

/-- a tuple's place -/
def tpO : HO → Bool
  | .tup _ => true
  | .frz _ (.tup _) => true
  | _ => false
def Sub (F F' : Hp) : Prop := ∀ b o, F b = some o → F' b = some o
theorem Sub.refl {F : Hp} : Sub F F := fun _ _ h => h
theorem Sub.nil {F : Hp} : Sub (fun _ => none) F := fun _ _ h => nomatch h
theorem Sub.trans {F F1 F2 : Hp} (a : Sub F F1) (b : Sub F1 F2) : Sub F F2 := fun c o h => b c o (a c o h)
theorem Sub.upd {F : Hp} {p : Addr} {o : HO} (h : F p = none) : Sub F (upd F p o) := fun b x e => by
  rw [upd_ne (ne_of_none e h)]; exact e
theorem Sub.sqT {K : PySem.W.Frag} {F F' : Hp} (s : Sub F F') {a : Addr} {xs : List V} (h : SqT K F a xs) : SqT K F' a xs := by
  rcases h with (h | ⟨o, h⟩) | h
  · exact .inl (.inl (s _ _ h))
  · exact .inl (.inr ⟨o, s _ _ h⟩)
  · exact .inr h
theorem Sub.sqL {K : PySem.W.Frag} {F F' : Hp} (s : Sub F F') {a : Addr} {xs : List V} (h : SqL K F a xs) : SqL K F' a xs := by
  rcases h with (h | ⟨o, h⟩) | h
  · exact .inl (.inl (s _ _ h))
  · exact .inl (.inr ⟨o, s _ _ h⟩)
  · exact .inr h

section
variable {K : PySem.W.Frag} {sa : SA} {F F' H H' : Hp}
mutual
theorem Rp.mono (s : Sub F F') : ∀ {v : V} {d : D}, Rp K sa F v d → Rp K sa F' v d
  | _, _, .non => .non
  | _, _, .bl b => .bl b
  | _, _, .int i => .int i
  | _, _, .str x => .str x
  | _, _, .lst h r => .lst (s _ _ h) (RpA.mono s r)
  | _, _, .tup h r => .tup (s _ _ h) (RpA.mono s r)
  | _, _, .tupK h r => .tupK h (RpA.mono s r)
  | _, _, .dic h r => .dic (s _ _ h) (RpK.mono s r)
  | _, _, .sta h => .sta h
theorem RpA.mono (s : Sub F F') : ∀ {v : List V} {d : List D}, RpA K sa F v d → RpA K sa F' v d
  | _, _, .nil => .nil
  | _, _, .cons h r => .cons (Rp.mono s h) (RpA.mono s r)
theorem RpK.mono (s : Sub F F') : ∀ {v : List (Key × V)} {d : List (Key × D)}, RpK K sa F v d → RpK K sa F' v d
  | _, _, .nil => .nil
  | _, _, .cons h r => .cons (Rp.mono s h) (RpK.mono s r)
end
theorem RpA.length : ∀ {v : List V} {d : List D}, RpA K sa F v d → v.length = d.length
  | _, _, .nil => rfl
  | _, _, .cons _ r => by rw [List.length_cons, List.length_cons, RpA.length r]
theorem RpA.append : ∀ {v u : List V} {d e : List D}, RpA K sa F v d → RpA K sa F u e → RpA K sa F (v ++ u) (d ++ e)
  | _, _, _, _, .nil, q => q
  | _, _, _, _, .cons h r, q => .cons h (RpA.append r q)
theorem RpA.take : ∀ {v : List V} {d : List D} (n : Nat), RpA K sa F v d → RpA K sa F (v.take n) (d.take n)
  | _, _, 0, _ => by rw [List.take_zero, List.take_zero]; exact .nil
  | _, _, _ + 1, .nil => .nil
  | _, _, n + 1, .cons h r => .cons h (RpA.take n r)
theorem RpA.drop : ∀ {v : List V} {d : List D} (n : Nat), RpA K sa F v d → RpA K sa F (v.drop n) (d.drop n)
  | _, _, 0, r => r
  | _, _, _ + 1, .nil => .nil
  | _, _, n + 1, .cons _ r => RpA.drop n r
theorem RpA.get : ∀ {v : List V} {d : List D} {i : Nat} {x : D}, RpA K sa F v d → d[i]? = some x → ∃ y, v[i]? = some y ∧ Rp K sa F y x
  | _, _, _, _, .nil, h => by simp at h
  | _, _, 0, _, .cons h _, e => ⟨_, rfl, by cases e; exact h⟩
  | _, _, i + 1, _, .cons _ r, e => RpA.get (i := i) r e
theorem RpA.get' : ∀ {v : List V} {d : List D} {i : Nat} {y : V}, RpA K sa F v d → v[i]? = some y → ∃ x, d[i]? = some x ∧ Rp K sa F y x
  | _, _, _, _, .nil, h => by simp at h
  | _, _, 0, _, .cons h _, e => ⟨_, rfl, by cases e; exact h⟩
  | _, _, i + 1, _, .cons _ r, e => RpA.get' (i := i) r e
theorem RpA.set {y : V} {x : D} (h : Rp K sa F y x) : ∀ {v : List V} {d : List D} (i : Nat), RpA K sa F v d → RpA K sa F (v.set i y) (d.set i x)
  | _, _, _, .nil => .nil
  | _, _, 0, .cons _ r => .cons h r
  | _, _, i + 1, .cons g r => .cons g (RpA.set h i r)
theorem RpA.rev : ∀ {v : List V} {d : List D}, RpA K sa F v d → RpA K sa F v.reverse d.reverse
  | _, _, .nil => .nil
  | _, _, .cons h r => by rw [List.reverse_cons, List.reverse_cons]; exact (RpA.rev r).append (.cons h .nil)
theorem RpA.rep (n : Nat) {v : List V} {d : List D} (r : RpA K sa F v d) : RpA K sa F (List.replicate n v).flatten (List.replicate n d).flatten := by
  induction n with
  | zero => exact .nil
  | succ n ih => rw [List.replicate_succ, List.replicate_succ, List.flatten_cons, List.flatten_cons]; exact r.append ih
theorem RpA.ints : ∀ {v : List V} {d : List D} {ns : List Int}, RpA K sa F v d → intsD d = some ns → v = ns.map V.int
  | _, _, _, .nil, e => by cases e; rfl
  | _, _, _, .cons (d := d) (ds := ds) h r, e => by
    cases d <;> simp only [intsD] at e <;> try cases e
    cases q : intsD ds with
    | none => rw [q] at e; cases e
    | some ms =>
      rw [q] at e; cases e
      cases h
      rw [RpA.ints r q]; rfl
theorem RpA.bools : ∀ {v : List V} {d : List D} {ns : List Bool}, RpA K sa F v d → boolsD d = some ns → v = ns.map V.bl
  | _, _, _, .nil, e => by cases e; rfl
  | _, _, _, .cons (d := d) (ds := ds) h r, e => by
    cases d <;> simp only [boolsD] at e <;> try cases e
    cases q : boolsD ds with
    | none => rw [q] at e; cases e
    | some ms =>
      rw [q] at e; cases e
      cases h
      rw [RpA.bools r q]; rfl
theorem RpA.of_ints (ns : List Int) : RpA K sa F (ns.map V.int) (ns.map PyData.int) := by
  induction ns with
  | nil => exact .nil
  | cons n ns ih => exact .cons (.int n) ih
mutual
theorem Rp.dp (s : Sub F H) : ∀ {v : V} {d : D}, Rp K sa F v d → d.canLay0 = true → Dp K H v d
  | _, _, .non, _ => .non
  | _, _, .bl b, _ => .bl b
  | _, _, .int i, _ => .int i
  | _, _, .str x, _ => .str x
  | _, _, .lst h r, c => .lst (.inl (.inl (s _ _ h))) (RpA.dp s r (by simpa [PyData.canLay0] using c))
  | _, _, .tup h r, c => .tup (.inl (.inr ⟨_, s _ _ h⟩)) (RpA.dp s r (by simpa [PyData.canLay0] using c))
  | _, _, .tupK h r, c => .tup (Sub.nil.sqT h.1) (RpA.dp s r (by simpa [PyData.canLay0] using c))
  | _, _, .dic h r, c => by simp [dictD, PyData.canLay0] at c
  | _, _, .sta h, c => by simp [PyData.canLay0] at c
theorem RpA.dp (s : Sub F H) : ∀ {v : List V} {d : List D}, RpA K sa F v d → PyData.canLayAll0 d = true → DpAll K H v d
  | _, _, .nil, _ => .nil
  | _, _, .cons h r, c => by
    simp only [PyData.canLayAll0, Bool.and_eq_true] at c
    exact .cons (Rp.dp s h c.1) (RpA.dp s r c.2)
end
theorem shaped_lay {d : D} (h : SeqAt.shaped d = true) : d.canLay0 = true := by
  unfold SeqAt.shaped at h
  rw [Bool.and_eq_true] at h
  exact h.1
mutual
/-- what has no lists and dicts in it leans on tuples alone -/
theorem Rp.noLD (s : ∀ b u, tpO u = true → F b = some u → F' b = some u) : ∀ {v : V} {d : D}, Rp K sa F v d → noLD d = true → Rp K sa F' v d
  | _, _, .non, _ => .non
  | _, _, .bl b, _ => .bl b
  | _, _, .int i, _ => .int i
  | _, _, .str x, _ => .str x
  | _, _, .lst h r, c => by simp [Eng.noLD] at c
  | _, _, .tup h r, c => .tup (s _ _ rfl h) (RpA.noLD s r (by simpa [Eng.noLD] using c))
  | _, _, .tupK h r, c => .tupK h (RpA.noLD s r (by simpa [Eng.noLD] using c))
  | _, _, .dic h r, c => by simp [dictD, Eng.noLD] at c
  | _, _, .sta h, c => by simp [Eng.noLD] at c
theorem RpA.noLD (s : ∀ b u, tpO u = true → F b = some u → F' b = some u) : ∀ {v : List V} {d : List D}, RpA K sa F v d → noLD.noLDs d = true → RpA K sa F' v d
  | _, _, .nil, _ => .nil
  | _, _, .cons h r, c => by
    simp only [Eng.noLD.noLDs, Bool.and_eq_true] at c
    exact .cons (Rp.noLD s h c.1) (RpA.noLD s r c.2)
end
end

/-! ### what a def's body has at hand -/
/-- what stood at the def's entry: the heap, the part that stands still, the law's state object -/
structure Gh where
  H0 : Hp
  F0 : Hp
  sa : SA
  /-- what is wanted of an exception that leaves; how one lies -/
  E : XK
  xa : Exn → Value → Option Addr → Hp → Prop
def exS (o : Option (Addr × Addr)) (b : Addr) : Prop := match o with
  | some (a, c) => b = a ∨ b = c
  | none => False
def exA (sa : SA) (b : Addr) : Prop := exS sa.st b ∨ b ∈ sa.tb
def StS (o : Option (Addr × Addr)) (st : Sta) (F H : Hp) : Prop := match o, st with
  | some (a, c), some (cells, seed) => a ≠ c ∧ F a = none ∧ F c = none ∧ H a = some (.lst [.ref c, .int seed]) ∧ H c = some (.lst (cells.map V.int))
  | none, none => True
  | _, _ => False
def StaOk (sa : SA) (st : Sta) (F H : Hp) : Prop := StS sa.st st F H ∧ ∀ P ∈ sa.tb, F P = none ∧ GxR.TabG H P
/-- a list or dict that is being filled, in slot i, at a -/
def OwnAt (ρ : Env) (σ : L2.St) (i : Nat) (a : Addr) : Prop := ((∃ ds, ρ[i]? = some (.lst ds)) ∨ ∃ kvs, ρ[i]? = some (.dic kvs)) ∧ σ[i]? = some (some (.ref a))
def SlotOk (K : PySem.W.Frag) (sa : SA) (F H : Hp) (s : Slot) (v : Option (Option V)) : Prop := match s with
  | .emp => True
  | .val d => ∃ x, v = some (some x) ∧ Rp K sa F x d
  | .lst ds => ∃ a xs, v = some (some (.ref a)) ∧ H a = some (.lst xs) ∧ RpA K sa F xs ds
  | .dic kds => ∃ a kvs, v = some (some (.ref a)) ∧ H a = some (.dK kvs) ∧ RpK K sa F kvs kds
structure Rep (K : PySem.W.Frag) (G : Gh) (ρ : Env) (sa : SA) (σ : L2.St) (F H : Hp) (st : Sta) : Prop where
  sub : Sub F H
  slots : ∀ (i : Nat) (s : Slot), ρ[i]? = some s → SlotOk K sa F H s σ[i]?
  len : ρ.length = σ.length
  dis : ∀ (i j : Nat) (a : Addr), OwnAt ρ σ i a → OwnAt ρ σ j a → i = j
  own : ∀ (i : Nat) (a : Addr), OwnAt ρ σ i a → F a = none ∧ G.H0 a = none ∧ ¬ exA sa a
  sta : StaOk sa st F H
  base : ∀ b o, ¬ exA sa b → G.H0 b = some o → H b = some o
  new : ∀ b, F b ≠ none → G.F0 b ≠ none ∨ G.H0 b = none ∨ ∃ u, F b = some u ∧ tpO u = true
  sub0 : Sub G.F0 F
  sa0 : (G.sa.st = none ∧ G.sa.tb = sa.tb) ∨ G.sa = sa
  saf : G.sa.st = none → ∀ b, exS sa.st b → G.H0 b = none
theorem Rep.tbq {K : PySem.W.Frag} {G : Gh} {ρ : Env} {sa : SA} {σ : L2.St} {F H : Hp} {st : Sta} (R : Rep K G ρ sa σ F H st) : sa.tb = G.sa.tb := R.sa0.elim (fun z => z.2.symm) fun z => by rw [z]
/-- an expression's change -/
structure Stp (K : PySem.W.Frag) (G : Gh) (ρ : Env) (sa : SA) (σ : L2.St) (F H F' H' : Hp) (st' : Sta) : Prop where
  rep : Rep K G ρ sa σ F' H' st'
  sub : Sub F F'
  keep : ∀ b o, ¬ exA sa b → H b = some o → H' b = some o
  new : ∀ b, F' b ≠ none → F b ≠ none ∨ H b = none ∨ ∃ u, F' b = some u ∧ tpO u = true
section
variable {K : PySem.W.Frag} {G : Gh} {ρ : Env} {sa : SA} {σ : L2.St} {F H F1 H1 F2 H2 : Hp} {st st1 st2 : Sta}
theorem StS.at {o : Option (Addr × Addr)} (h : StS o st F H) {b : Addr} (e : exS o b) : F b = none ∧ ∃ u, H b = some u := by
  unfold StS at h
  split at h
  · obtain ⟨h1, h2, h3, h4, h5⟩ := h
    rcases e with e | e
    · rw [e]; exact ⟨h2, _, h4⟩
    · rw [e]; exact ⟨h3, _, h5⟩
  · exact e.elim
  · exact h.elim
theorem StaOk.at (h : StaOk sa st F H) {b : Addr} (e : exA sa b) : F b = none ∧ ∃ o, H b = some o := by
  rcases e with e | e
  · exact h.1.at e
  · obtain ⟨h1, ps, h2, _⟩ := h.2 b e
    exact ⟨h1, _, h2⟩
theorem StS.keep {o : Option (Addr × Addr)} {F' H' : Hp} (h : StS o st F H) (f : ∀ b, exS o b → F' b = F b) (g : ∀ b, exS o b → H' b = H b) : StS o st F' H' := by
  match o, st, h, f, g with
  | some (a, c), some (cells, seed), h, f, g =>
    obtain ⟨h1, h2, h3, h4, h5⟩ := h
    exact ⟨h1, (f _ (.inl rfl)).trans h2, (f _ (.inr rfl)).trans h3, (g _ (.inl rfl)).trans h4, (g _ (.inr rfl)).trans h5⟩
  | none, none, _, _, _ => trivial
  | some _, none, h, _, _ => exact h.elim
  | none, some _, h, _, _ => exact h.elim
theorem StaOk.keep {F' H' : Hp} (h : StaOk sa st F H) (f : ∀ b, exA sa b → F' b = F b) (g : ∀ b, exA sa b → H' b = H b) : StaOk sa st F' H' :=
  ⟨h.1.keep (fun b e => f b (.inl e)) fun b e => g b (.inl e), fun P hP => by
    obtain ⟨h1, ps, h2, h3⟩ := h.2 P hP
    exact ⟨(f P (.inr hP)).trans h1, ps, (g P (.inr hP)).trans h2, h3⟩⟩
theorem Stp.refl (R : Rep K G ρ sa σ F H st) : Stp K G ρ sa σ F H F H st := ⟨R, Sub.refl, fun _ _ _ h => h, fun _ h => .inl h⟩
theorem Stp.trans (a : Stp K G ρ sa σ F H F1 H1 st1) (b : Stp K G ρ sa σ F1 H1 F2 H2 st2) : Stp K G ρ sa σ F H F2 H2 st2 :=
  ⟨b.rep, a.sub.trans b.sub, fun c o hc h => b.keep c o hc (a.keep c o hc h), fun c h => by
    rcases b.new c h with z | z | z
    · rcases a.new c z with w | w | ⟨xs, w, w'⟩
      · exact .inl w
      · exact .inr (.inl w)
      · exact .inr (.inr ⟨xs, b.sub _ _ w, w'⟩)
    · refine .inr (.inl ?_)
      cases q : H c with
      | none => rfl
      | some o =>
        by_cases hc : exA sa c
        · obtain ⟨_, o', e⟩ := a.rep.sta.at hc
          rw [z] at e; cases e
        · rw [a.keep c o hc q] at z; cases z
    · exact .inr (.inr z)⟩
/-- a new object -/
theorem Rep.new' {p : Addr} {o : HO} (R : Rep K G ρ sa σ F H st) (n : H p = none) : Rep K G ρ sa σ (upd F p o) (upd H p o) st := by
  have nF : F p = none := by
    cases q : F p with
    | none => rfl
    | some u => rw [R.sub _ _ q] at n; cases n
  have sF : Sub F (upd F p o) := Sub.upd nF
  have sH : Sub H (upd H p o) := Sub.upd n
  have nex : ¬ exA sa p := fun e => by
    obtain ⟨_, u, q⟩ := R.sta.at e
    rw [n] at q; cases q
  have n0 : G.H0 p = none := by
    cases q : G.H0 p with
    | none => rfl
    | some u => rw [R.base p u nex q] at n; cases n
  refine ⟨fun b u e => ?_, fun i s e => ?_, R.len, R.dis, fun i a h => ?_, ?_, fun b u hb e => sH _ _ (R.base b u hb e), fun b h => ?_, R.sub0.trans sF, R.sa0, R.saf⟩
  · by_cases hb : b = p
    · subst hb; rw [upd_same] at e ⊢; exact e
    · rw [upd_ne hb] at e ⊢; exact R.sub b u e
  · have q := R.slots i s e
    cases s with
    | emp => trivial
    | val d => obtain ⟨x, h1, h2⟩ := q; exact ⟨x, h1, h2.mono sF⟩
    | lst ds => obtain ⟨a, xs, h1, h2, h3⟩ := q; exact ⟨a, xs, h1, sH _ _ h2, h3.mono sF⟩
    | dic ds => obtain ⟨a, xs, h1, h2, h3⟩ := q; exact ⟨a, xs, h1, sH _ _ h2, h3.mono sF⟩
  · obtain ⟨h1, h2, h3⟩ := R.own i a h
    refine ⟨?_, h2, h3⟩
    have ne : a ≠ p := by
      obtain ⟨hs, hv⟩ := h
      intro z
      subst z
      rcases hs with ⟨ds, hs⟩ | ⟨ds, hs⟩
      · obtain ⟨a', xs, g1, g2, _⟩ := R.slots i _ hs
        rw [hv] at g1; cases g1
        rw [n] at g2; cases g2
      · obtain ⟨a', xs, g1, g2, _⟩ := R.slots i _ hs
        rw [hv] at g1; cases g1
        rw [n] at g2; cases g2
    rw [upd_ne ne]; exact h1
  · refine R.sta.keep (fun b e => upd_ne fun z => nex (z ▸ e)) (fun b e => upd_ne fun z => nex (z ▸ e))
  · by_cases hb : b = p
    · subst hb; exact .inr (.inl n0)
    · rw [upd_ne hb] at h ⊢; exact R.new b h
theorem Stp.alloc {p : Addr} {o : HO} (R : Rep K G ρ sa σ F H st) (n : H p = none) : Stp K G ρ sa σ F H (upd F p o) (upd H p o) st := by
  have nF : F p = none := by
    cases q : F p with
    | none => rfl
    | some u => rw [R.sub _ _ q] at n; cases n
  refine ⟨R.new' n, Sub.upd nF, fun b u _ e => Sub.upd n b u e, fun b h => ?_⟩
  by_cases hb : b = p
  · subst hb; exact .inr (.inl n)
  · rw [upd_ne hb] at h; exact .inl h

/-! ### results -/
/-- a list or dict that is being filled, read -/
def Own (K : PySem.W.Frag) (sa : SA) (F H : Hp) (v : V) (d : D) : Prop :=
  ∃ a, v = .ref a ∧ ¬ exA sa a ∧ ((∃ xs ds, d = .list ds ∧ H a = some (.lst xs) ∧ RpA K sa F xs ds) ∨ ∃ kvs kds, d = dictD kds ∧ H a = some (.dK kvs) ∧ RpK K sa F kvs kds)
def Rq (K : PySem.W.Frag) (sa : SA) (o : Bool) (F H : Hp) (v : V) (d : D) : Prop := Rp K sa F v d ∨ (o = true ∧ Own K sa F H v d)
theorem Rq.rp {v : V} {d : D} (h : Rq K sa false F H v d) : Rp K sa F v d := by
  rcases h with h | ⟨z, _⟩
  · exact h
  · cases z
theorem Rq.mono {v : V} {d : D} {o : Bool} (s : Stp K G ρ sa σ F H F1 H1 st1) (h : Rq K sa o F H v d) : Rq K sa o F1 H1 v d := by
  rcases h with h | ⟨z, a, e, ne, h⟩
  · exact .inl (h.mono s.sub)
  · refine .inr ⟨z, a, e, ne, ?_⟩
    rcases h with ⟨xs, ds, e1, e2, e3⟩ | ⟨xs, ds, e1, e2, e3⟩
    · exact .inl ⟨xs, ds, e1, s.keep _ _ ne e2, e3.mono s.sub⟩
    · exact .inr ⟨xs, ds, e1, s.keep _ _ ne e2, e3.mono s.sub⟩
/-- a list, whoever holds it -/
theorem Rq.list {v : V} {ds : List D} {o : Bool} (h : Rq K sa o F H v (.list ds)) (s : Sub F H) : ∃ a xs, v = .ref a ∧ H a = some (.lst xs) ∧ RpA K sa F xs ds := by
  rcases h with h | ⟨_, a, e, _, h⟩
  · cases h with
    | lst h r => exact ⟨_, _, rfl, s _ _ h, r⟩
  · rcases h with ⟨xs, ds', e1, e2, e3⟩ | ⟨_, _, e1, _⟩
    · cases e1; exact ⟨a, xs, e, e2, e3⟩
    · cases e1
theorem Rq.tuple {v : V} {ds : List D} {o : Bool} (h : Rq K sa o F H v (.tuple ds)) (s : Sub F H) : ∃ a xs, v = .ref a ∧ SqT K H a xs ∧ RpA K sa F xs ds := by
  rcases h with h | ⟨_, a, e, _, h⟩
  · cases h with
    | tup h r => exact ⟨_, _, rfl, .inl (.inr ⟨_, s _ _ h⟩), r⟩
    | tupK h r => exact ⟨_, _, rfl, Sub.nil.sqT h.1, r⟩
  · rcases h with ⟨xs, ds', e1, e2, e3⟩ | ⟨_, _, e1, _⟩
    · cases e1
    · cases e1
/-- a tuple's object has no dict -/
theorem Rq.meth {v : V} {ds : List D} {o : Bool} (h : Rq K sa o F H v (.tuple ds)) (s : Sub F H) : TupN.Meth K "tuple" v H := by
  rcases h with h | ⟨_, a, e, _, h⟩
  · cases h with
    | tup h r => exact ⟨_, rfl, .inr ⟨rfl, .inl ⟨_, _, s _ _ h⟩⟩⟩
    | tupK h r => exact ⟨_, rfl, .inr ⟨rfl, .inr h.2⟩⟩
  · rcases h with ⟨xs, ds', e1, e2, e3⟩ | ⟨_, _, e1, _⟩
    · cases e1
    · cases e1
theorem Rq.methL {v : V} {ds : List D} {o : Bool} (h : Rq K sa o F H v (.list ds)) (s : Sub F H) : TupN.Meth K "list" v H := by
  obtain ⟨a, xs, rfl, e, _⟩ := h.list s
  exact ⟨a, rfl, .inl ⟨rfl, xs, .inl (.inl e)⟩⟩
theorem Rq.dp {v : V} {d : D} {o : Bool} (h : Rq K sa o F H v d) (s : Sub F H) (c : d.canLay0 = true) : Dp K H v d := by
  rcases h with h | ⟨_, a, e, _, h⟩
  · exact h.dp s c
  · rcases h with ⟨xs, ds', e1, e2, e3⟩ | ⟨_, _, e1, _⟩
    · subst e e1
      exact .lst (.inl (.inl e2)) (e3.dp s (by simpa [PyData.canLay0] using c))
    · subst e1; simp [dictD, PyData.canLay0] at c
theorem Rq.int {v : V} {i : Int} {o : Bool} (h : Rq K sa o F H v (.int i)) : v = .int i := by
  rcases h with h | ⟨_, a, e, _, h⟩
  · cases h; rfl
  · rcases h with ⟨xs, ds', e1, _⟩ | ⟨_, _, e1, _⟩ <;> cases e1
theorem Rq.bool {v : V} {i : Bool} {o : Bool} (h : Rq K sa o F H v (.bool i)) : v = .bl i := by
  rcases h with h | ⟨_, a, e, _, h⟩
  · cases h; rfl
  · rcases h with ⟨xs, ds', e1, _⟩ | ⟨_, _, e1, _⟩ <;> cases e1
theorem Rq.str {v : V} {i : Str} {o : Bool} (h : Rq K sa o F H v (.str i)) : v = .str i := by
  rcases h with h | ⟨_, a, e, _, h⟩
  · cases h; rfl
  · rcases h with ⟨xs, ds', e1, _⟩ | ⟨_, _, e1, _⟩ <;> cases e1
theorem Rq.none {v : V} {o : Bool} (h : Rq K sa o F H v .none) : v = .non := by
  rcases h with h | ⟨_, a, e, _, h⟩
  · cases h; rfl
  · rcases h with ⟨xs, ds', e1, _⟩ | ⟨_, _, e1, _⟩ <;> cases e1

/-- what is wanted of a result -/
def P {α : Type} (K : PySem.W.Frag) (G : Gh) (ρ : Env) (sa : SA) (σ : L2.St) (F H : Hp) (r : R α) (Ok : α → Sta → Hp → Hp → Prop) : Prop := match r with
  | .ok a st' => ∀ F' H', Stp K G ρ sa σ F H F' H' st' → Ok a st' F' H'
  | .exc e st' => ∀ F' H', Stp K G ρ sa σ F H F' H' st' → ∀ cls dx, G.xa e cls dx H' → G.E cls dx H'
  | .bad => False
theorem P.rebase {α : Type} {r : R α} {Ok : α → Sta → Hp → Hp → Prop} (s : Stp K G ρ sa σ F H F1 H1 st1) (h : P K G ρ sa σ F H r Ok) : P K G ρ sa σ F1 H1 r Ok := by
  cases r with
  | ok a st => exact fun F' H' s' => h F' H' (s.trans s')
  | exc e st => exact fun F' H' s' => h F' H' (s.trans s')
  | bad => exact h
theorem P.bind {α β : Type} {r : R α} {k : α → Sta → R β} {Ok : β → Sta → Hp → Hp → Prop} (h : P K G ρ sa σ F H (r.bind k) Ok) :
    P K G ρ sa σ F H r (fun a st1 F1 H1 => P K G ρ sa σ F1 H1 (k a st1) Ok) := by
  cases r with
  | ok a st => exact fun F' H' s' => P.rebase s' h
  | exc e st => exact h
  | bad => exact h
theorem P.imp {α : Type} {r : R α} {Ok Ok' : α → Sta → Hp → Hp → Prop} (h : P K G ρ sa σ F H r Ok) (f : ∀ a st1 F1 H1, Stp K G ρ sa σ F H F1 H1 st1 → Ok a st1 F1 H1 → Ok' a st1 F1 H1) : P K G ρ sa σ F H r Ok' := by
  cases r with
  | ok a st => exact fun F' H' s' => f _ _ _ _ s' (h F' H' s')
  | exc e st => exact h
  | bad => exact h
theorem P.of {α : Type} {r : Option α} {Ok : α → Sta → Hp → Hp → Prop} (h : P K G ρ sa σ F H (R.of r st) Ok) (R : Rep K G ρ sa σ F H st) : ∃ a, r = some a ∧ Ok a st F H ∧ ∀ F' H', Stp K G ρ sa σ F H F' H' st → Ok a st F' H' := by
  cases r with
  | none => exact h.elim
  | some a => exact ⟨a, rfl, h F H (Stp.refl R), h⟩
theorem P.here {α : Type} {a : α} {Ok : α → Sta → Hp → Hp → Prop} (h : P K G ρ sa σ F H (.ok a st) Ok) (R : Rep K G ρ sa σ F H st) : Ok a st F H := h F H (Stp.refl R)
end

section
variable (K : PySem.W.Frag) (G : Gh) (cl : Calls) (gl : List D)
/-- the reading of an expression -/
def T (o : Bool) (e : E) : TE := fun σ H Q => ∃ ρ sa F st, Rep K G ρ sa σ F H st ∧ P K G ρ sa σ F H (ev cl gl ρ o e st) fun d _ F' H' => ∀ v, Rq K sa o F' H' v d → Q v H'
def TTe (e : E) : TT := fun σ H Q => ∃ ρ sa F st, Rep K G ρ sa σ F H st ∧ P K G ρ sa σ F H (ev cl gl ρ false e st) fun d _ F' H' => ∃ b, d = .bool b ∧ Q b H'
def TAs (es : Es) : TA := fun σ H Q => ∃ ρ sa F st, Rep K G ρ sa σ F H st ∧ P K G ρ sa σ F H (evs cl gl ρ es st) fun ds _ F' H' => ∀ vs, RpA K sa F' vs ds → Q vs H'
end
section
variable {K : PySem.W.Frag} {G : Gh} {cl : Calls} {gl : List D} {ρ : Env} {sa : SA} {σ : L2.St} {F H : Hp} {st : Sta}
theorem T.of {o : Bool} {e : E} {Ok : D → Sta → Hp → Hp → Prop} {Q : VK} (R : Rep K G ρ sa σ F H st) (h : P K G ρ sa σ F H (ev cl gl ρ o e st) Ok)
    (f : ∀ d st1 F1 H1 v, Stp K G ρ sa σ F H F1 H1 st1 → Ok d st1 F1 H1 → Rq K sa o F1 H1 v d → Q v H1) : T K G cl gl o e σ H Q :=
  ⟨ρ, sa, F, st, R, h.imp fun d st1 F1 H1 s q v r => f d st1 F1 H1 v s q r⟩
end
end Eng

end
section
set_option Elab.async false
set_option linter.all false
set_option maxRecDepth 100000
set_option maxHeartbeats 4000000
set_option autoImplicit false
/-! Eng, part C: the operators by values. -/
namespace Eng
open PySem PySem.Spec PyProof.Rows L2

section
variable {K : PySem.W.Frag} {G : Gh} {ρ : Env} {sa : SA} {σ : L2.St} {F H : Hp} {st : Sta} {o o' : Bool} {x y : V} {d e r : D} {Q : VK}

/-- what is wanted of an operator's answer -/
abbrev Ans (K : PySem.W.Frag) (G : Gh) (ρ : Env) (sa : SA) (σ : L2.St) (F H : Hp) (st : Sta) (r : D) (Q : VK) : Prop :=
  ∀ F' H', Stp K G ρ sa σ F H F' H' st → ∀ v, Rp K sa F' v r → Q v H'
theorem Ans.here (R : Rep K G ρ sa σ F H st) (q : Ans K G ρ sa σ F H st r Q) {v : V} (h : Rp K sa F v r) : Q v H := q F H (Stp.refl R) v h
theorem Ans.lst {xs : List V} {ds : List D} (R : Rep K G ρ sa σ F H st) (q : Ans K G ρ sa σ F H st (.list ds) Q) (h : RpA K sa F xs ds) {p : Addr} (n : H p = none) : Q (.ref p) (upd H p (.lst xs)) := by
  have s := Stp.alloc (o := .lst xs) R n
  exact q _ _ s _ (.lst upd_same (h.mono s.sub))
theorem Ans.tup {xs : List V} {ds : List D} (R : Rep K G ρ sa σ F H st) (q : Ans K G ρ sa σ F H st (.tuple ds) Q) (h : RpA K sa F xs ds) : TupN.New H Q xs := fun p us n => by
  have s := Stp.alloc (o := .frz (TupN.ob us) (.tup xs)) R n
  exact q _ _ s _ (.tup upd_same (h.mono s.sub))

/-! ### + -/
def rAdd4 (K : PySem.W.Frag) : R2 := fun x y H Q => rI0 (fun i j => .int (i + j)) x y H Q ∨ rCat x y H Q ∨ TupN.rCatN K x y H Q ∨ ∃ i j, x = .str i ∧ y = .str j ∧ i.length + j.length ≤ sizeLine ∧ Q (.str (i ++ j)) H
theorem op_add4 {X : Cx} : OpR X (binaryOp .Add) (rAdd4 X.K) := op_add.or (op_cat.or (TupN.op_catN.or op_add_str))
theorem add_ok (h : addD d e = some r) (hx : Rq K sa o F H x d) (hy : Rq K sa o' F H y e) (R : Rep K G ρ sa σ F H st) (q : Ans K G ρ sa σ F H st r Q) : rAdd4 K x y H Q := by
  unfold addD at h
  split at h
  · cases h
    exact .inl ⟨_, _, hx.int, hy.int, q.here R (.int _)⟩
  · split at h
    · rename_i hz
      cases h
      obtain ⟨a, xs, e1, e2, e3⟩ := hx.list R.sub
      obtain ⟨b, ys, f1, f2, f3⟩ := hy.list R.sub
      refine .inr (.inl ⟨a, b, xs, ys, e1, f1, e2, f2, by rw [e3.length, f3.length]; exact hz, fun p n => q.lst R (e3.append f3) n⟩)
    · cases h
  · split at h
    · rename_i xs0 ys0 hz
      cases h
      obtain ⟨a, xs, e1, e2, e3⟩ := hx.tuple R.sub
      obtain ⟨b, ys, f1, f2, f3⟩ := hy.tuple R.sub
      have hx' : Rp K sa F x (.tuple xs0) := by
        rcases hx with hx | ⟨_, a, _, _, ⟨_, _, z, _⟩ | ⟨_, _, z, _⟩⟩
        · exact hx
        · cases z
        · cases z
      have hy' : Rp K sa F y (.tuple ys0) := by
        rcases hy with hy | ⟨_, a, _, _, ⟨_, _, z, _⟩ | ⟨_, _, z, _⟩⟩
        · exact hy
        · cases z
        · cases z
      refine .inr (.inr (.inl ⟨a, b, xs, ys, e1, f1, e2, f2, by rw [e3.length, f3.length]; exact hz, fun z => ?_, fun z1 z => ?_, fun z1 z => q.tup R (e3.append f3)⟩))
      · subst z
        have z' : xs0 = [] := by
          cases e3; rfl
        subst z'
        rw [← f1]
        exact q.here R hy'
      · subst z
        have z' : ys0 = [] := by
          cases f3; rfl
        subst z'
        rw [← e1]
        rw [List.append_nil] at q
        exact q.here R hx'
    · cases h
  · split at h
    · rename_i hz
      cases h
      exact .inr (.inr (.inr ⟨_, _, hx.str, hy.str, hz, q.here R (.str _)⟩))
    · cases h
  · cases h

/-! ### the operators of ints; * of a list -/
def rMul2 (K : PySem.W.Frag) : R2 := fun x y H Q => rI CMulW (fun i j => .int (i * j)) x y H Q ∨ rRep x y H Q ∨ TupN.rRepN K x y H Q
theorem op_mul2 {X : Cx} : OpR X (binaryOp .Mult) (rMul2 X.K) := op_mulW.or (op_rep.or TupN.op_repN)
theorem mul_ok (h : mulD d e = some r) (hx : Rq K sa o F H x d) (hy : Rq K sa o' F H y e) (R : Rep K G ρ sa σ F H st) (q : Ans K G ρ sa σ F H st r Q) : rMul2 K x y H Q := by
  unfold mulD at h
  split at h
  · split at h
    · rename_i hz
      cases h
      exact .inl ⟨_, _, hx.int, hy.int, hz, q.here R (.int _)⟩
    · cases h
  · split at h
    · rename_i hz
      cases h
      obtain ⟨a, xs, e1, e2, e3⟩ := hx.list R.sub
      exact .inr (.inl ⟨a, _, xs, e1, hy.int, e2, hz.1, hz.2.1, by rw [e3.length]; exact hz.2.2, fun p n => q.lst R (e3.rep _) n⟩)
    · cases h
  · split at h
    · rename_i hz
      cases h
      obtain ⟨a, xs, e1, e2, e3⟩ := hx.tuple R.sub
      refine .inr (.inr ⟨a, _, xs, e1, hy.int, e2, fun z => ?_, hz.2.1, hz.2.2.1, by rw [e3.length]; exact hz.2.2.2, q.tup R (e3.rep _)⟩)
      have l := e3.length
      rw [z] at l
      have h0 := hz.1
      rw [List.length_nil] at l
      rw [List.eq_nil_of_length_eq_zero l.symm] at h0
      cases h0
    · cases h
  · cases h
theorem int_ok {C : Int → Int → Bool} {g : Int → Int → Int} {C' : Int → Int → Prop} (hC : ∀ i j, C i j = true → C' i j) (h : intD C g d e = some r) (hx : Rq K sa o F H x d) (hy : Rq K sa o' F H y e) (R : Rep K G ρ sa σ F H st) (q : Ans K G ρ sa σ F H st r Q) :
    rI C' (fun i j => .int (g i j)) x y H Q := by
  unfold intD at h
  split at h
  · split at h
    · rename_i hz
      cases h
      exact ⟨_, _, hx.int, hy.int, hC _ _ hz, q.here R (.int _)⟩
    · cases h
  · cases h
/-- the operator, and what it asks -/
def rBin (K : PySem.W.Frag) : BOp → R2
  | .add => rAdd4 K
  | .sub => rI0 fun i j => .int (i - j)
  | .mul => rMul2 K
  | .fdiv => rI CDivW fun i j => .int (i / j)
  | .mod => rI (fun _ j => 0 < j) fun i j => .int (i % j)
  | .shl => rI CShl fun i j => .int (i * 2 ^ j.toNat)
  | .shr => rI (fun _ j => 0 ≤ j) fun i j => .int (i / 2 ^ j.toNat)
  | .band => rI0 fun i j => .int (Builtin.bitAnd i j)
  | .bor => rI0 fun i j => .int (Builtin.bitOr i j)
  | .bxor => rI0 fun i j => .int (Builtin.bitXor i j)
  | .pow => rI CPow fun i j => .int (i ^ j.toNat)
def BOp.op : BOp → Operator
  | .add => .Add
  | .sub => .Sub
  | .mul => .Mult
  | .fdiv => .FloorDiv
  | .mod => .Mod
  | .shl => .LShift
  | .shr => .RShift
  | .band => .BitAnd
  | .bor => .BitOr
  | .bxor => .BitXor
  | .pow => .Pow
theorem opBin {X : Cx} : ∀ b : BOp, OpR X (binaryOp b.op) (rBin X.K b)
  | .add => op_add4
  | .sub => op_sub
  | .mul => op_mul2
  | .fdiv => op_fdivW
  | .mod => op_mod
  | .shl => op_shlW
  | .shr => op_shr
  | .band => op_and
  | .bor => op_or
  | .bxor => op_xor
  | .pow => op_pow
theorem rI_0 {g : Int → Int → V} (h : rI (fun _ _ => True) g x y H Q) : rI0 g x y H Q := by
  obtain ⟨i, j, e1, e2, _, q⟩ := h
  exact ⟨i, j, e1, e2, q⟩
theorem bin_ok (b : BOp) (h : binD b d e = some r) (hx : Rq K sa o F H x d) (hy : Rq K sa o' F H y e) (R : Rep K G ρ sa σ F H st) (q : Ans K G ρ sa σ F H st r Q) : rBin K b x y H Q := by
  cases b with
  | add => exact add_ok h hx hy R q
  | mul => exact mul_ok h hx hy R q
  | sub => exact rI_0 (int_ok (C' := fun _ _ => True) (fun _ _ _ => trivial) h hx hy R q)
  | band => exact rI_0 (int_ok (C' := fun _ _ => True) (fun _ _ _ => trivial) h hx hy R q)
  | bor => exact rI_0 (int_ok (C' := fun _ _ => True) (fun _ _ _ => trivial) h hx hy R q)
  | bxor => exact rI_0 (int_ok (C' := fun _ _ => True) (fun _ _ _ => trivial) h hx hy R q)
  | fdiv => exact int_ok (C' := CDivW) (fun i j z => (of_decide_eq_true z : 0 < j ∧ j.natAbs.log2 < 9000)) h hx hy R q
  | mod => exact int_ok (C' := fun _ j => 0 < j) (fun _ _ z => of_decide_eq_true z) h hx hy R q
  | shl => exact int_ok (C' := CShl) (fun i j z => (of_decide_eq_true z : 0 ≤ j ∧ (Builtin.Int.intBits i : Int) + j ≤ 2 ^ 27)) h hx hy R q
  | shr => exact int_ok (C' := fun _ j => 0 ≤ j) (fun _ _ z => of_decide_eq_true z) h hx hy R q
  | pow => exact int_ok (C' := CPow) (fun i j z => (of_decide_eq_true z : 0 ≤ j ∧ j ≤ 1000000 ∧ i.natAbs < 2 ^ 64)) h hx hy R q

/-! ### comparisons -/
theorem eq_ok {k : Bool} (h : eqD d e = some k) (hx : Rq K sa o F H x d) (hy : Rq K sa o' F H y e) (R : Rep K G ρ sa σ F H st) (q : Q (.bl k) H) : rEqD K x y H Q := by
  unfold eqD at h
  split at h
  · rename_i hz
    rw [Bool.and_eq_true] at hz
    cases h
    exact ⟨d, e, hx.dp R.sub (shaped_lay hz.1), hy.dp R.sub (shaped_lay hz.2), hz.1, hz.2, q⟩
  · cases h
theorem ne_ok {k : Bool} (h : (eqD d e).map (!·) = some k) (hx : Rq K sa o F H x d) (hy : Rq K sa o' F H y e) (R : Rep K G ρ sa σ F H st) (q : Q (.bl k) H) : rNeD K x y H Q := by
  unfold eqD at h
  split at h
  · rename_i hz
    rw [Bool.and_eq_true] at hz
    cases h
    exact ⟨d, e, hx.dp R.sub (shaped_lay hz.1), hy.dp R.sub (shaped_lay hz.2), hz.1, hz.2, q⟩
  · cases h
def flatD : D → Bool
  | .int _ | .str _ | .bool _ | .none => true
  | _ => false
theorem Rp.flat {v : V} {d : D} (h : Rp K sa F v d) (c : flatD d = true) : flatV v = true := by
  cases h <;> first | rfl | (simp [flatD, dictD] at c)
theorem Rp.eqv {v u : V} {d e : D} (h : Rp K sa F v d) (g : Rp K sa F u e) (c : flatD d = true) (c' : flatD e = true) : eqV v u = PyData.eqv d e := by
  cases h <;> first | (simp [flatD, dictD] at c; done) | (cases g <;> first | (simp [flatD, dictD] at c'; done) | (simp [eqV, PyData.eqv]; done))
theorem RpA.flat : ∀ {v : List V} {d : List D}, RpA K sa F v d → d.all flatD = true → v.all flatV = true
  | _, _, .nil, _ => rfl
  | _, _, .cons h r, c => by
    rw [List.all_cons, Bool.and_eq_true] at c
    rw [List.all_cons, h.flat c.1, RpA.flat r c.2]
    rfl
theorem RpA.anyEq {u : V} {e : D} (g : Rp K sa F u e) (c' : flatD e = true) : ∀ {v : List V} {d : List D}, RpA K sa F v d → d.all flatD = true → inV u v = d.any fun z => PyData.eqv z e
  | _, _, .nil, _ => rfl
  | _, _, .cons (vs := vs) h r, c => by
    rw [List.all_cons, Bool.and_eq_true] at c
    have ih := RpA.anyEq g c' r c.2
    unfold inV at ih ⊢
    rw [List.any_cons, List.any_cons, h.eqv g c.1 c', ih]
def rIn2 (K : PySem.W.Frag) : R2 := fun x y H Q => rInD K x y H Q ∨ rIn K false x y H Q
def rNin2 (K : PySem.W.Frag) : R2 := fun x y H Q => rNotInD K x y H Q ∨ rIn K true x y H Q
theorem op_in2 {X : Cx} (hu : X.A.units + 65 < cLine) : OpR X (compareOp .In) (rIn2 X.K) := (op_inD hu).or op_in_seq
theorem op_nin2 {X : Cx} (hu : X.A.units + 65 < cLine) : OpR X (compareOp .NotIn) (rNin2 X.K) := (op_notInD hu).or op_notIn_seq
theorem in_ok {k : Bool} (h : inD d e = some k) (hx : Rq K sa o F H x d) (hy : Rq K sa o' F H y e) (R : Rep K G ρ sa σ F H st) :
    (Q (.bl k) H → rIn2 K x y H Q) ∧ (Q (.bl (!k)) H → rNin2 K x y H Q) := by
  unfold inD at h
  split at h
  · rename_i ds
    split at h
    · rename_i hz
      rw [Bool.and_eq_true] at hz
      cases h
      have h1 := hx.dp R.sub (shaped_lay hz.1)
      have h2 := hy.dp R.sub (shaped_lay hz.2)
      exact ⟨fun q => .inl ⟨d, ds, h1, h2, hz.1, hz.2, q⟩, fun q => .inl ⟨d, ds, h1, h2, hz.1, hz.2, q⟩⟩
    · cases h
  · rename_i ds
    have main : flatD d = true → (if (ds.all flatD) = true then some (ds.any fun z => PyData.eqv z d) else none) = some k → (Q (.bl k) H → rIn2 K x y H Q) ∧ (Q (.bl (!k)) H → rNin2 K x y H Q) := fun fd h => by
      split at h
      · rename_i hz
        cases h
        have rx : Rp K sa F x d := by
          rcases hx with hx | ⟨_, a, _, _, ⟨_, _, z, _⟩ | ⟨_, _, z, _⟩⟩
          · exact hx
          · subst z; simp [flatD] at fd
          · subst z; simp [flatD, dictD] at fd
        obtain ⟨b, ys, f1, f2, f3⟩ := hy.tuple R.sub
        have e1 := f3.anyEq rx fd hz
        refine ⟨fun q => .inr ⟨b, ys, f1, .inr f2, rx.flat fd, f3.flat hz, ?_⟩, fun q => .inr ⟨b, ys, f1, .inr f2, rx.flat fd, f3.flat hz, ?_⟩⟩
        · rw [if_neg Bool.false_ne_true, e1]; exact q
        · rw [if_pos rfl, e1]; exact q
      · cases h
    have e0 : (ds.all fun | .int _ | .str _ | .bool _ | .none => true | _ => false) = ds.all flatD := by
      first | rfl | (congr 1; done) | (congr 1; funext z; cases z <;> rfl)
    split at h
    · exact main rfl (by rw [← e0]; exact h)
    · exact main rfl (by rw [← e0]; exact h)
    · exact main rfl (by rw [← e0]; exact h)
    · exact main rfl (by rw [← e0]; exact h)
    · cases h
  · cases h
def rOrd (K : PySem.W.Frag) (p : Int → Int → Bool) : R2 := rI0 fun i j => .bl (p i j)
theorem ord_ok {p : Int → Int → Bool} {k : Bool} (h : ordD p none d e = some k) (hx : Rq K sa o F H x d) (hy : Rq K sa o' F H y e) (q : Q (.bl k) H) : rI0 (fun i j => .bl (p i j)) x y H Q := by
  unfold ordD at h
  split at h
  · cases h; exact ⟨_, _, hx.int, hy.int, q⟩
  · simp at h
  · cases h
def rLt2 (K : PySem.W.Frag) : R2 := fun x y H Q => rI0 (fun i j => .bl (decide (i < j))) x y H Q ∨ rLtT K x y H Q
theorem op_lt2 {X : Cx} (hu : X.A.units < cLine) : OpR X (compareOp .Lt) (rLt2 X.K) := op_lt.or (op_ltT hu)
theorem lt_ok {k : Bool} (h : ordD (fun i j => decide (i < j)) (some HT.lexLt) d e = some k) (hx : Rq K sa o F H x d) (hy : Rq K sa o' F H y e) (R : Rep K G ρ sa σ F H st) (q : Q (.bl k) H) : rLt2 K x y H Q := by
  unfold ordD at h
  split at h
  · cases h; exact .inl ⟨_, _, hx.int, hy.int, q⟩
  · rename_i xs0 ys0
    split at h
    · rename_i p ns ms e1 e2 e3
      cases e1
      cases h
      obtain ⟨a, xs, f1, f2, f3⟩ := hx.tuple R.sub
      obtain ⟨b, ys, g1, g2, g3⟩ := hy.tuple R.sub
      rw [f3.ints e2] at f2
      rw [g3.ints e3] at g2
      exact .inr ⟨a, b, ns, ms, f1, g1, f2, g2, q⟩
    · cases h
  · cases h
theorem fl_map (e r : Nat → Bool) (fin : Bool) (f : Nat → Nat) : ∀ l : List Nat, SeqAt.firstLt e r fin (l.map f) = SeqAt.firstLt (fun j => e (f j)) (fun j => r (f j)) fin l
  | [] => rfl
  | j :: t => by
    show (if e (f j) = true then SeqAt.firstLt e r fin (t.map f) else r (f j)) = (if e (f j) = true then SeqAt.firstLt (fun j => e (f j)) (fun j => r (f j)) fin t else r (f j))
    rw [fl_map e r fin f t]
theorem fl_lex : ∀ ns ms : List Int, SeqAt.firstLt (fun j => decide (ns.getD j 0 = ms.getD j 0)) (fun j => decide (ms.getD j 0 < ns.getD j 0)) (decide (ns.length > ms.length)) (List.range (min ns.length ms.length)) = HT.lexLt ms ns
  | [], [] => rfl
  | [], _ :: _ => by simp [SeqAt.firstLt, HT.lexLt]
  | _ :: _, [] => by simp [SeqAt.firstLt, HT.lexLt]
  | n :: ns, m :: ms => by
    have ih := fl_lex ns ms
    have em : min (n :: ns).length (m :: ms).length = min ns.length ms.length + 1 := by simp only [List.length_cons]; omega
    rw [em, List.range_succ_eq_map, HT.lexLt_cons]
    show (if decide (n = m) = true then SeqAt.firstLt _ _ _ _ else decide (m < n)) = _
    rw [fl_map]
    by_cases q : n = m
    · rw [decide_eq_true q, if_pos rfl, if_pos q.symm, ← ih]
      congr 1
      simp only [List.length_cons]
      by_cases z : ns.length > ms.length
      · rw [decide_eq_true z, decide_eq_true (by omega)]
      · rw [decide_eq_false z, decide_eq_false (by omega)]
    · rw [decide_eq_false q, if_neg Bool.false_ne_true, if_neg (fun z => q z.symm)]
def rGtT (K : PySem.W.Frag) : R2 := fun x y H Q => ∃ (l t : Addr) (ns ms : List Int), (x = .ref l ∧ y = .ref t) ∧ (SqT K H l (ns.map V.int) ∧ SqT K H t (ms.map V.int)) ∧ Q (.bl (HT.lexLt ms ns)) H
theorem op_gtT {X : Cx} (room : X.A.units < cLine) : OpR X (compareOp .Gt) (rGtT X.K) := by
  intro pins s σ H x y v u Q I rx ry hh
  obtain ⟨l, t, ns, ms, ⟨rfl, rfl⟩, ⟨hl, ht⟩, q⟩ := hh
  cases rx; cases ry
  obtain ⟨as, ra, pa, _⟩ := I.tuple hl
  obtain ⟨bs, rb, pb, _⟩ := I.tuple ht
  have ia : IntsAre as ns := Vals.ints ra
  have ib : IntsAre bs ms := Vals.ints rb
  have za : as.toArray.size = ns.length := by rw [List.size_toArray, ia.length]
  have zb : bs.toArray.size = ms.length := by rw [List.size_toArray, ib.length]
  have ga : ∀ j (h : j < as.toArray.size), ∃ k, as.toArray[j] = .int (ns.getD j 0) k := fun j h => PyProof.Rows.IntsAre.int_at ia _ _ (by simp at h; simp [h])
  have gb : ∀ j (h : j < bs.toArray.size), ∃ k, bs.toArray[j] = .int (ms.getD j 0) k := fun j h => PyProof.Rows.IntsAre.int_at ib _ _ (by simp at h; simp [h])
  have W := SeqAt.RcOp.tuples_gt (A := X.A) (s := s) (e := fun j => decide (ns.getD j 0 = ms.getD j 0)) (r := fun j => decide (ms.getD j 0 < ns.getD j 0)) pa pb room (fun j h1 h2 => by
    obtain ⟨k, ek⟩ := ga j h1
    obtain ⟨k', ek'⟩ := gb j h2
    rw [ek, ek', ← Bool.beq_eq_decide_eq]
    exact SeqAt.EqAt.int_int _ _ _ _) (fun j h1 h2 _ => by
    obtain ⟨k, ek⟩ := ga j h1
    obtain ⟨k', ek'⟩ := gb j h2
    rw [ek, ek']
    exact fun prog w E' Q' h' => (PyProof.Rows.gt_int h' : wpAny (model prog w) _ (compareOp .Gt _ _) Q' E' s))
  rw [za, zb, fl_lex] at W
  exact W X.prog X.w _ _ ⟨.bl _, H, I, rfl, q⟩
def rGt2 (K : PySem.W.Frag) : R2 := fun x y H Q => rI0 (fun i j => .bl (decide (j < i))) x y H Q ∨ rGtT K x y H Q
theorem op_gt2 {X : Cx} (hu : X.A.units < cLine) : OpR X (compareOp .Gt) (rGt2 X.K) := op_gt.or (op_gtT hu)
theorem gt_ok {k : Bool} (h : ordD (fun i j => decide (j < i)) (some fun a b => HT.lexLt b a) d e = some k) (hx : Rq K sa o F H x d) (hy : Rq K sa o' F H y e) (R : Rep K G ρ sa σ F H st) (q : Q (.bl k) H) : rGt2 K x y H Q := by
  unfold ordD at h
  split at h
  · cases h; exact .inl ⟨_, _, hx.int, hy.int, q⟩
  · rename_i xs0 ys0
    split at h
    · rename_i p ns ms e1 e2 e3
      cases e1
      cases h
      obtain ⟨a, xs, f1, f2, f3⟩ := hx.tuple R.sub
      obtain ⟨b, ys, g1, g2, g3⟩ := hy.tuple R.sub
      rw [f3.ints e2] at f2
      rw [g3.ints e3] at g2
      exact .inr ⟨a, b, ns, ms, ⟨f1, g1⟩, ⟨f2, g2⟩, q⟩
    · cases h
  · cases h
def COp.op : COp → CmpOp
  | .eq => .Eq
  | .ne => .NotEq
  | .lt => .Lt
  | .le => .LtE
  | .gt => .Gt
  | .ge => .GtE
  | .inn => .In
  | .nin => .NotIn
def rCmp (K : PySem.W.Frag) : COp → R2
  | .eq => rEqD K
  | .ne => rNeD K
  | .lt => rLt2 K
  | .le => rI0 fun i j => .bl (decide (i ≤ j))
  | .gt => rGt2 K
  | .ge => rI0 fun i j => .bl (decide (j ≤ i))
  | .inn => rIn2 K
  | .nin => rNin2 K
theorem opCmp {X : Cx} (hu : X.A.units + 65 < cLine) : ∀ c : COp, OpR X (compareOp c.op) (rCmp X.K c)
  | .eq => op_eqD (by omega)
  | .ne => op_neD (by omega)
  | .lt => op_lt2 (by omega)
  | .le => op_le
  | .gt => op_gt2 (by omega)
  | .ge => op_ge
  | .inn => op_in2 hu
  | .nin => op_nin2 hu
theorem cmp_ok (c : COp) {k : Bool} (h : cmpD c d e = some k) (hx : Rq K sa o F H x d) (hy : Rq K sa o' F H y e) (R : Rep K G ρ sa σ F H st) (q : Q (.bl k) H) : rCmp K c x y H Q := by
  cases c with
  | eq => exact eq_ok h hx hy R q
  | ne => exact ne_ok h hx hy R q
  | lt => exact lt_ok h hx hy R q
  | le => exact ord_ok h hx hy q
  | gt => exact gt_ok h hx hy R q
  | ge => exact ord_ok h hx hy q
  | inn => exact (in_ok h hx hy R).1 q
  | nin =>
    have h' : (inD d e).map (!·) = some k := h
    cases z : inD d e with
    | none => rw [z] at h'; cases h'
    | some k' => rw [z] at h'; cases h'; exact (in_ok z hx hy R).2 q

/-! ### items, slices -/
theorem RpA.atI {v : List V} {ds : List D} {i : Int} {z : D} (h : RpA K sa F v ds) (e : L2.atI ds i = some z) : ∃ y, L2.atI v i = some y ∧ Rp K sa F y z := by
  unfold L2.atI at e ⊢
  rw [h.length]
  cases q : ixN ds.length i with
  | none => rw [q] at e; cases e
  | some j =>
    rw [q] at e
    exact h.get e
theorem idx_ok (h : idxD d e = some r) (hx : Rq K sa o F H x d) (hy : Rq K sa o' F H y e) (R : Rep K G ρ sa σ F H st) (q : Ans K G ρ sa σ F H st r Q) : rIx K x y H Q := by
  unfold idxD at h
  split at h
  · obtain ⟨a, xs, e1, e2, e3⟩ := hx.list R.sub
    obtain ⟨z, f1, f2⟩ := e3.atI h
    exact .inl ⟨a, xs, _, z, e1, hy.int, .inl (.inl e2), f1, q.here R f2⟩
  · obtain ⟨a, xs, e1, e2, e3⟩ := hx.tuple R.sub
    obtain ⟨z, f1, f2⟩ := e3.atI h
    exact .inr (.inl ⟨a, xs, _, z, e1, hy.int, e2, f1, q.here R f2⟩)
  · split at h
    · rename_i z i hz
      cases g : L2.atI z.cps.toList i with
      | none => rw [g] at h; cases h
      | some c =>
        rw [g] at h; cases h
        exact .inr (.inr ⟨z, i, c, hx.str, hy.int, hz, g, q.here R (.str _)⟩)
    · cases h
  · cases h
def rSl2 (K : PySem.W.Frag) : V → Option Int → Option Int → Hp → VK → Prop := fun x lo hi H Q => rSlL K x lo hi H Q ∨ TupN.rSlN K x lo hi H Q
theorem sl_2 {X : Cx} : SlR X (rSl2 X.K) := sl_list.or TupN.sl_N
theorem RpA.cut {v : List V} {ds : List D} (h : RpA K sa F v ds) (lo hi : Option Int) : RpA K sa F (cutV v lo hi) (cutD ds lo hi) := by
  unfold cutV cutD
  rw [h.length]
  exact (h.drop _).take _
theorem slice_ok {lo hi : Option Int} (h : sliceD d lo hi = some r) (hx : Rq K sa o F H x d) (R : Rep K G ρ sa σ F H st) (q : Ans K G ρ sa σ F H st r Q) : rSl2 K x lo hi H Q := by
  unfold sliceD at h
  split at h
  · cases h
    obtain ⟨a, xs, e1, e2, e3⟩ := hx.list R.sub
    exact .inl ⟨a, xs, e1, .inl (.inl e2), fun p n => q.lst R (e3.cut _ _) n⟩
  · rename_i ds
    cases h
    obtain ⟨a, xs, e1, e2, e3⟩ := hx.tuple R.sub
    have hx' : Rp K sa F x (.tuple ds) := by
      rcases hx with hx | ⟨_, a, _, _, ⟨_, _, z, _⟩ | ⟨_, _, z, _⟩⟩
      · exact hx
      · cases z
      · cases z
    refine .inr ⟨a, xs, e1, e2, fun z => ?_, fun z => q.tup R (e3.cut _ _)⟩
    have z' : cutD ds lo hi = ds := by
      unfold cutD
      rw [e3.length] at z
      rw [z.1, z.2, List.drop_zero, Nat.sub_zero]
      exact List.take_length
    rw [z'] at q
    rw [← e1]
    exact q.here R hx'
  · cases h
end
end Eng

end
section
set_option Elab.async false
set_option linter.all false
set_option maxRecDepth 100000
set_option maxHeartbeats 4000000
set_option autoImplicit false
/-! Eng, part D: built-in functions, classes, dicts by values. -/
namespace Eng
open PySem PySem.Spec PyProof.Rows L2

theorem ins_perm (x : Int) : ∀ l : List Int, (isort.ins x l).Perm (x :: l)
  | [] => List.Perm.refl _
  | y :: ys => by
    unfold isort.ins
    split
    · exact List.Perm.refl _
    · exact ((ins_perm x ys).cons y).trans (List.Perm.swap x y ys)
theorem isort_perm : ∀ l : List Int, (isort l).Perm l
  | [] => List.Perm.refl _
  | x :: xs => (ins_perm x _).trans ((isort_perm xs).cons x)
theorem ins_sorted (x : Int) : ∀ l : List Int, l.Pairwise (· ≤ ·) → (isort.ins x l).Pairwise (· ≤ ·)
  | [], _ => List.pairwise_singleton _ _
  | y :: ys, h => by
    unfold isort.ins
    rw [List.pairwise_cons] at h
    split
    · rename_i hxy
      refine List.pairwise_cons.mpr ⟨fun z hz => ?_, List.pairwise_cons.mpr h⟩
      rcases List.mem_cons.mp hz with e | e
      · rw [e]; exact hxy
      · exact Int.le_trans hxy (h.1 z e)
    · rename_i hxy
      refine List.pairwise_cons.mpr ⟨fun z hz => ?_, ins_sorted x ys h.2⟩
      rcases List.mem_cons.mp ((ins_perm x ys).mem_iff.mp hz) with e | e
      · rw [e]; omega
      · exact h.1 z e
theorem isort_sorted : ∀ l : List Int, (isort l).Pairwise (· ≤ ·)
  | [] => List.Pairwise.nil
  | x :: xs => ins_sorted x _ (isort_sorted xs)
theorem isort_eq {a l : List Int} (hp : a.Perm l) (hs : a.Pairwise (· ≤ ·)) : a = isort l := List.Perm.eq_of_pairwise (fun x y _ _ h1 h2 => Int.le_antisymm h1 h2) hs (isort_sorted l) (hp.trans (isort_perm l).symm)
theorem fold_max (y m : Int) : ∀ (xs : List Int), (xs.foldl (fun m y => if y > m then y else m) m = y ↔ (y = m ∨ y ∈ xs) ∧ m ≤ y ∧ ∀ z ∈ xs, z ≤ y)
  | [] => by simp; omega
  | x :: xs => by
    rw [List.foldl_cons, fold_max y _ xs]
    simp only [List.mem_cons, forall_eq_or_imp]
    by_cases h : x > m
    · rw [if_pos h]
      constructor
      · rintro ⟨h1, h2, h3⟩; exact ⟨.inr h1, by omega, h2, h3⟩
      · rintro ⟨h1, h2, h3, h4⟩
        refine ⟨?_, h3, h4⟩
        rcases h1 with h1 | h1
        · omega
        · exact h1
    · rw [if_neg h]
      constructor
      · rintro ⟨h1, h2, h3⟩
        refine ⟨?_, h2, by omega, h3⟩
        rcases h1 with h1 | h1
        · exact .inl h1
        · exact .inr (.inr h1)
      · rintro ⟨h1, h2, h3, h4⟩
        refine ⟨?_, h2, h4⟩
        rcases h1 with h1 | h1 | h1
        · exact .inl h1
        · exact .inl (by omega)
        · exact .inr h1
theorem fold_min (y m : Int) : ∀ (xs : List Int), (xs.foldl (fun m y => if y < m then y else m) m = y ↔ (y = m ∨ y ∈ xs) ∧ y ≤ m ∧ ∀ z ∈ xs, y ≤ z)
  | [] => by simp; omega
  | x :: xs => by
    rw [List.foldl_cons, fold_min y _ xs]
    simp only [List.mem_cons, forall_eq_or_imp]
    by_cases h : x < m
    · rw [if_pos h]
      constructor
      · rintro ⟨h1, h2, h3⟩; exact ⟨.inr h1, by omega, h2, h3⟩
      · rintro ⟨h1, h2, h3, h4⟩
        refine ⟨?_, h3, h4⟩
        rcases h1 with h1 | h1
        · omega
        · exact h1
    · rw [if_neg h]
      constructor
      · rintro ⟨h1, h2, h3⟩
        refine ⟨?_, h2, by omega, h3⟩
        rcases h1 with h1 | h1
        · exact .inl h1
        · exact .inr (.inr h1)
      · rintro ⟨h1, h2, h3, h4⟩
        refine ⟨?_, h2, h4⟩
        rcases h1 with h1 | h1 | h1
        · exact .inl h1
        · exact .inl (by omega)
        · exact .inr h1
theorem maxL_is {ns : List Int} {m : Int} (h1 : m ∈ ns) (h2 : ∀ y ∈ ns, y ≤ m) : maxL ns = some m := by
  cases ns with
  | nil => cases h1
  | cons x xs =>
    show some _ = some _
    congr 1
    exact (fold_max m x xs).mpr ⟨List.mem_cons.mp h1, h2 x List.mem_cons_self, fun z hz => h2 z (List.mem_cons_of_mem _ hz)⟩
theorem minL_is {ns : List Int} {m : Int} (h1 : m ∈ ns) (h2 : ∀ y ∈ ns, m ≤ y) : minL ns = some m := by
  cases ns with
  | nil => cases h1
  | cons x xs =>
    show some _ = some _
    congr 1
    exact (fold_min m x xs).mpr ⟨List.mem_cons.mp h1, h2 x List.mem_cons_self, fun z hz => h2 z (List.mem_cons_of_mem _ hz)⟩

def Bi.name : Bi → Str
  | .len => "len"
  | .tuple => "tuple"
  | .list => "list"
  | .sorted => "sorted"
  | .sum => "sum"
  | .abs => "abs"
  | .int => "int"
  | .bool => "bool"
  | .max => "max"
  | .min => "min"
  | .any => "any"
  | .all => "all"
abbrev RC := List V → Hp → VK → Prop
def rBi (K : PySem.W.Frag) : Bi → RC
  | .len => fun xs H Q => (∃ x n, xs = [x] ∧ LenV K x H n ∧ Q (.int n) H) ∨ ∃ a kvs, xs = [V.ref a] ∧ H a = some (.dK kvs) ∧ Q (.int kvs.length) H
  | .tuple => fun xs H Q => ∃ p ys, xs = [.ref p] ∧ ((SqL K H p ys ∧ TupN.New H Q ys) ∨ (SqT K H p ys ∧ Q (.ref p) H))
  | .list => fun xs H Q => ∃ p ys, xs = [.ref p] ∧ (SqL K H p ys ∨ SqT K H p ys) ∧ ∀ l, H l = none → Q (.ref l) (upd H l (.lst ys))
  | .sorted => rSortedI K
  | .sum => rSum K
  | .abs => fun xs H Q => ∃ i, xs = [.int i] ∧ Q (.int (if i < 0 then -i else i)) H
  | .int => fun xs H Q => (∃ i, xs = [.int i] ∧ Q (.int i) H) ∨ ∃ k, xs = [.bl k] ∧ Q (.int (if k then 1 else 0)) H
  | .bool => fun xs H Q => (∃ i, xs = [.int i] ∧ Q (.bl (i != 0)) H) ∨ ∃ k, xs = [.bl k] ∧ Q (.bl k) H
  | .max => rMax K
  | .min => rMin K
  | .any => rAny K
  | .all => rAll K
section
variable {X : Cx}
theorem call_lenAny : CallR X (.builtin "len") (rBi X.K .len) := by
  intro pins s σ H xs us Q I r h
  rcases h with h | h
  · exact call_len pins s σ H xs us Q I r h
  · exact call_lenD pins s σ H xs us Q I r h
theorem pe_bi (hc : X.calm = true) (b : Bi) {a : Expr} {ta : TE} {p pos : Pos} (hg : Gl X b.name) (hm : X.mg b.name = none) (ha : PE X a ta) (hs : starEach [a] X.env = (false, eval a X.env) :: starEach [] X.env) :
    PE X (.Call (.Name b.name p) [a] [] pos) (tCB (rBi X.K b) (tCons ta tNil)) := by
  cases b with
  | len => exact pe_callB call_lenAny hg hm (by decide +kernel) (pa_cons ha pa_nil hs) (he := hs)
  | tuple => exact pe_callTy TupN.call_tupleN hg hm (by decide +kernel) (pa_cons ha pa_nil hs) (he := hs)
  | list => exact pe_callTy call_list_of hg hm (by decide +kernel) (pa_cons ha pa_nil hs) (he := hs)
  | sorted => exact pe_callB cr_sortedI hg hm (by decide +kernel) (pa_cons ha pa_nil hs) (he := hs)
  | sum => exact pe_callB (cr_sum hc) hg hm (by decide +kernel) (pa_cons ha pa_nil hs) (he := hs)
  | abs => exact pe_callB call_abs hg hm (by decide +kernel) (pa_cons ha pa_nil hs) (he := hs)
  | int => exact pe_callTy call_int1 hg hm (by decide +kernel) (pa_cons ha pa_nil hs) (he := hs)
  | bool => exact pe_callTy call_bool1 hg hm (by decide +kernel) (pa_cons ha pa_nil hs) (he := hs)
  | max => exact pe_callB (cr_max hc) hg hm (by decide +kernel) (pa_cons ha pa_nil hs) (he := hs)
  | min => exact pe_callB (cr_min hc) hg hm (by decide +kernel) (pa_cons ha pa_nil hs) (he := hs)
  | any => exact pe_callB (cr_any hc) hg hm (by decide +kernel) (pa_cons ha pa_nil hs) (he := hs)
  | all => exact pe_callB (cr_all hc) hg hm (by decide +kernel) (pa_cons ha pa_nil hs) (he := hs)
end
section
variable {K : PySem.W.Frag} {G : Gh} {ρ : Env} {sa : SA} {σ : L2.St} {F H : Hp} {st : Sta} {o o' : Bool} {x y : V} {d e r : D} {Q : VK}
theorem Rq.tupRp {ds : List D} (h : Rq K sa o F H x (.tuple ds)) : Rp K sa F x (.tuple ds) := by
  rcases h with h | ⟨_, a, _, _, ⟨_, _, z, _⟩ | ⟨_, _, z, _⟩⟩
  · exact h
  · cases z
  · cases z
theorem RpK.length : ∀ {kvs : List (Key × V)} {kds : List (Key × D)}, RpK K sa F kvs kds → kvs.length = kds.length
  | _, _, .nil => rfl
  | _, _, .cons _ r => by rw [List.length_cons, List.length_cons, RpK.length r]
theorem dKvs_of : ∀ kds : List (Key × D), dKvs (kds.map kvD) = some kds
  | [] => rfl
  | (.inl i, d) :: r => by
    rw [List.map_cons]
    simp only [kvD, dKvs, keyD, dKvs_of r]
  | (.inr i, d) :: r => by
    rw [List.map_cons]
    simp only [kvD, dKvs, keyD, dKvs_of r]
theorem Rq.dict {kds : List (Key × D)} {kv : List (D × D)} (h : Rq K sa o F H x (.dict kv)) (e : dKvs kv = some kds) (s : Sub F H) : ∃ a kvs, x = .ref a ∧ H a = some (.dK kvs) ∧ RpK K sa F kvs kds := by
  have key : ∀ ds : List (Key × D), (.dict kv : D) = dictD ds → ds = kds := fun ds z => by
    unfold dictD at z
    injection z with z
    subst z
    rw [dKvs_of] at e
    exact Option.some.inj e
  rcases h with h | ⟨_, a, e1, _, ⟨_, _, z, _⟩ | ⟨kvs, ds, z, h2, h3⟩⟩
  · generalize q : (.dict kv : D) = w at h
    cases h with
    | dic h1 r => rw [key _ q] at r; exact ⟨_, _, rfl, s _ _ h1, r⟩
    | sta _ =>
      cases q
      simp [dKvs, keyD] at e
    | _ => cases q
  · cases z
  · rw [key _ z] at h3
    exact ⟨a, kvs, e1, h2, h3⟩
theorem bi_ok (b : Bi) (h : biD b d = some r) (hx : Rq K sa o F H x d) (R : Rep K G ρ sa σ F H st) (q : Ans K G ρ sa σ F H st r Q) : rBi K b [x] H Q := by
  unfold biD at h
  split at h
  · cases h
    obtain ⟨a, xs, e1, e2, e3⟩ := hx.list R.sub
    exact .inl ⟨x, xs.length, rfl, by rw [e1]; exact .inl ⟨xs, .inl (.inl e2), rfl⟩, by rw [e3.length]; exact q.here R (.int _)⟩
  · cases h
    obtain ⟨a, xs, e1, e2, e3⟩ := hx.tuple R.sub
    exact .inl ⟨x, xs.length, rfl, by rw [e1]; exact .inr ⟨xs, e2, rfl⟩, by rw [e3.length]; exact q.here R (.int _)⟩
  · rename_i kv
    cases g : dKvs kv with
    | none => rw [g] at h; cases h
    | some kds =>
      rw [g] at h; cases h
      obtain ⟨a, kvs, e1, e2, e3⟩ := hx.dict g R.sub
      exact .inr ⟨a, kvs, by rw [e1], e2, by rw [e3.length]; exact q.here R (.int _)⟩
  · split at h
    · rename_i hz
      cases h
      exact .inl ⟨x, _, rfl, by rw [hx.str]; exact ⟨hz, rfl⟩, q.here R (.int _)⟩
    · cases h
  · cases h
    obtain ⟨a, xs, e1, e2, e3⟩ := hx.list R.sub
    exact ⟨a, xs, by rw [e1], .inl ⟨.inl (.inl e2), q.tup R e3⟩⟩
  · cases h
    obtain ⟨a, xs, e1, e2, e3⟩ := hx.tuple R.sub
    exact ⟨a, xs, by rw [e1], .inr ⟨e2, by rw [← e1]; exact q.here R hx.tupRp⟩⟩
  · cases h
    obtain ⟨a, xs, e1, e2, e3⟩ := hx.list R.sub
    exact ⟨a, xs, by rw [e1], .inl (.inl (.inl e2)), fun p n => q.lst R e3 n⟩
  · cases h
    obtain ⟨a, xs, e1, e2, e3⟩ := hx.tuple R.sub
    exact ⟨a, xs, by rw [e1], .inr e2, fun p n => q.lst R e3 n⟩
  · rename_i xs0
    cases g : intsD xs0 with
    | none => rw [g] at h; cases h
    | some ns =>
      rw [g] at h; cases h
      obtain ⟨a, xs, e1, e2, e3⟩ := hx.list R.sub
      rw [e3.ints g] at e2
      refine ⟨a, ns, by rw [e1], .inl (.inl e2), fun ns' p hp hs n => ?_⟩
      rw [isort_eq hp hs]
      exact q.lst R (RpA.of_ints _) n
  · rename_i xs0
    cases g : intsD xs0 with
    | none => rw [g] at h; cases h
    | some ns =>
      rw [g] at h; cases h
      obtain ⟨a, xs, e1, e2, e3⟩ := hx.list R.sub
      rw [e3.ints g] at e2
      exact ⟨a, ns, by rw [e1], .inl (.inl e2), q.here R (.int _)⟩
  · rename_i xs0
    cases g : intsD xs0 with
    | none => rw [g] at h; cases h
    | some ns =>
      rw [g] at h
      have h' : (maxL ns).map PyData.int = some r := h
      obtain ⟨a, xs, e1, e2, e3⟩ := hx.list R.sub
      rw [e3.ints g] at e2
      refine ⟨a, ns, by rw [e1], .inl (.inl e2), ?_, fun m h1 h2 => ?_⟩
      · cases ns with
        | nil => cases h'
        | cons _ _ => exact Nat.succ_pos _
      · rw [maxL_is h1 h2] at h'; cases h'
        exact q.here R (.int _)
  · rename_i xs0
    cases g : intsD xs0 with
    | none => rw [g] at h; cases h
    | some ns =>
      rw [g] at h
      have h' : (minL ns).map PyData.int = some r := h
      obtain ⟨a, xs, e1, e2, e3⟩ := hx.list R.sub
      rw [e3.ints g] at e2
      refine ⟨a, ns, by rw [e1], .inl (.inl e2), ?_, fun m h1 h2 => ?_⟩
      · cases ns with
        | nil => cases h'
        | cons _ _ => exact Nat.succ_pos _
      · rw [minL_is h1 h2] at h'; cases h'
        exact q.here R (.int _)
  · rename_i xs0
    cases g : boolsD xs0 with
    | none => rw [g] at h; cases h
    | some ns =>
      rw [g] at h; cases h
      obtain ⟨a, xs, e1, e2, e3⟩ := hx.list R.sub
      rw [e3.bools g] at e2
      exact ⟨a, ns, by rw [e1], .inl (.inl e2), q.here R (.bl _)⟩
  · rename_i xs0
    cases g : boolsD xs0 with
    | none => rw [g] at h; cases h
    | some ns =>
      rw [g] at h; cases h
      obtain ⟨a, xs, e1, e2, e3⟩ := hx.list R.sub
      rw [e3.bools g] at e2
      exact ⟨a, ns, by rw [e1], .inl (.inl e2), q.here R (.bl _)⟩
  · cases h; exact ⟨_, by rw [hx.int], q.here R (.int _)⟩
  · cases h; exact .inl ⟨_, by rw [hx.int], q.here R (.int _)⟩
  · cases h; exact .inr ⟨_, by rw [hx.bool], q.here R (.int _)⟩
  · cases h; exact .inr ⟨_, by rw [hx.bool], q.here R (.bl _)⟩
  · cases h; exact .inl ⟨_, by rw [hx.int], q.here R (.bl _)⟩
  · cases h

/-! ### isinstance -/
theorem Rq.tyX (h : Rq K sa o F H x d) (R : Rep K G ρ sa σ F H st) (nd : tyD d ≠ "dict") : TyX K H x (.type (tyD d)) := by
  rcases h with h | ⟨_, a, e, _, ⟨xs, ds, z, h2, _⟩ | ⟨_, _, z, h2, _⟩⟩
  · cases h with
    | non => exact .base .non
    | bl b => exact .base (.bl b)
    | int i => exact .base (.int i)
    | str z => exact .base (.str z)
    | lst h1 _ => exact .base (.lst (R.sub _ _ h1))
    | tup h1 _ => exact .fTuple (R.sub _ _ h1)
    | tupK h1 _ =>
      obtain ⟨_, o, h1, h2, _⟩ := h1
      exact .kTuple h1 h2
    | dic h1 _ => exact (nd rfl).elim
    | sta _ => exact (nd rfl).elim
  · subst e z; exact .base (.lst h2)
  · subst z; exact (nd rfl).elim
/-- the classes that may be asked for -/
def askTy (t : String) : Bool := t == "int" || t == "bool" || t == "str" || t == "list" || t == "tuple"
theorem kit_s (s t : String) (h : askTy t = true) (hs : s ∈ ["NoneType", "bool", "int", "str", "list", "tuple"]) : PySem.W.kitOne K (.type s) (.type t) = some (instT s t) := by
  unfold askTy at h
  simp only [Bool.or_eq_true, beq_iff_eq] at h
  simp only [List.mem_cons, List.not_mem_nil, or_false] at hs
  rcases h with (((h | h) | h) | h) | h <;> subst h <;> rcases hs with hs | hs | hs | hs | hs | hs <;> subst hs <;> exact kit_ty (by decide +kernel)
theorem kit_d (d : D) (t : String) (h : askTy t = true) (nd : tyD d ≠ "dict") : PySem.W.kitOne K (.type (tyD d)) (.type t) = some (instD d t) :=
  kit_s _ _ h (by cases d <;> first | exact (nd rfl).elim | simp [tyD])

/-! ### dicts -/
theorem RpK.val (k : Key) : ∀ {kvs : List (Key × V)} {kds : List (Key × D)}, RpK K sa F kvs kds → (valK kds k = none → valV kvs k = none) ∧ ∀ z, valK kds k = some z → ∃ v, valV kvs k = some v ∧ Rp K sa F v z
  | _, _, .nil => ⟨fun _ => rfl, fun _ h => by simp [valK] at h⟩
  | _, _, .cons (k := k') (vs := vs) (ds := ds) h r => by
    have ih := RpK.val k r
    by_cases e : k' = k
    · subst e
      refine ⟨fun z => by simp [valK] at z, fun z hz => ⟨_, valV_pos rfl, ?_⟩⟩
      simp [valK] at hz
      rw [← hz]; exact h
    · have e1 : ∀ d : D, valK ((k', d) :: ds) k = valK ds k := fun d => by simp [valK, List.find?_cons, e]
      rw [e1, valV_neg (by exact e)]
      exact ih
theorem keyD_rp {k : Key} (h : keyD d = some k) (hx : Rq K sa o F H x d) : x = kV k := by
  unfold keyD at h
  split at h
  · cases h; exact hx.int
  · cases h; exact hx.str
  · cases h
theorem din_ok {k : Bool} (h : dinD d e = some k) (hx : Rq K sa o F H x d) (hy : Rq K sa o' F H y e) (R : Rep K G ρ sa σ F H st) : ∃ a oo, y = .ref a ∧ DGet H a x oo ∧ oo.isSome = k := by
  unfold dinD at h
  split at h
  · split at h
    · rename_i kv k0 kds e1 e2
      cases h
      obtain ⟨a, kvs, f1, f2, f3⟩ := hy.dict e2 R.sub
      refine ⟨a, valV kvs k0, f1, ?_, ?_⟩
      · rw [keyD_rp e1 hx]; exact DGet.k f2
      · obtain ⟨g1, g2⟩ := f3.val k0
        cases z : valK kds k0 with
        | none => rw [g1 z]; rfl
        | some w => obtain ⟨v, hv, _⟩ := g2 w z; rw [hv]; rfl
    · cases h
  · cases h
theorem dget_ok (h : dgetD d e = some r) (hx : Rq K sa o F H x d) (hy : Rq K sa o' F H y e) (R : Rep K G ρ sa σ F H st) (q : Ans K G ρ sa σ F H st r Q) : ∃ a v, x = .ref a ∧ DGet H a y (some v) ∧ Q v H := by
  unfold dgetD at h
  split at h
  · split at h
    · rename_i kv k0 kds e1 e2
      obtain ⟨a, kvs, f1, f2, f3⟩ := hx.dict e2 R.sub
      obtain ⟨v, hv, rv⟩ := (f3.val k0).2 r h
      refine ⟨a, v, f1, ?_, q.here R rv⟩
      rw [keyD_rp e1 hy, ← hv]; exact DGet.k f2
    · cases h
  · cases h
end
end Eng

end
section
set_option Elab.async false
set_option linter.all false
set_option maxRecDepth 100000
set_option maxHeartbeats 4000000
set_option autoImplicit false
/-! Eng, part E: targets, what is walked, the turns of a comprehension. -/
namespace Eng
open PySem PySem.Spec PyProof.Rows L2

/-! ### from one environment to another -/
section
variable {K : PySem.W.Frag} {G G' : Gh} {ρ ρ' : Env} {sa : SA} {σ σ' : L2.St} {F H F1 H1 F' H' : Hp} {st st1 st' : Sta}
/-- the same entry -/
structure GEq (G G' : Gh) : Prop where
  h : G'.H0 = G.H0
  f : G'.F0 = G.F0
  s : G'.sa = G.sa
theorem Rep.gh (e : GEq G G') (R : Rep K G ρ sa σ F H st) : Rep K G' ρ sa σ F H st :=
  ⟨R.sub, R.slots, R.len, R.dis, fun i a h => by rw [e.h]; exact R.own i a h, R.sta, fun b o => by rw [e.h]; exact R.base b o, fun b h => by rw [e.h, e.f]; exact R.new b h, by rw [e.f]; exact R.sub0, by rw [e.s]; exact R.sa0, by rw [e.s, e.h]; exact R.saf⟩
theorem Stp.gh (e : GEq G G') (s : Stp K G ρ sa σ F H F' H' st') : Stp K G' ρ sa σ F H F' H' st' := ⟨s.rep.gh e, s.sub, s.keep, s.new⟩
theorem GEq.symm (e : GEq G G') : GEq G' G := ⟨e.h.symm, e.f.symm, e.s.symm⟩
theorem Rep.ownAt (R : Rep K G ρ sa σ F H st) {i : Nat} {a : Addr} (h : OwnAt ρ σ i a) : ∃ u, H a = some u := by
  obtain ⟨hs, hv⟩ := h
  rcases hs with ⟨ds, hs⟩ | ⟨ds, hs⟩
  · obtain ⟨a', xs, g1, g2, _⟩ := R.slots i _ hs
    rw [hv] at g1; cases g1
    exact ⟨_, g2⟩
  · obtain ⟨a', xs, g1, g2, _⟩ := R.slots i _ hs
    rw [hv] at g1; cases g1
    exact ⟨_, g2⟩
theorem Rep.ownAtL (R : Rep K G ρ sa σ F H st) {i : Nat} {a : Addr} (h : OwnAt ρ σ i a) : ∃ u, H a = some u ∧ tpO u = false := by
  obtain ⟨hs, hv⟩ := h
  rcases hs with ⟨ds, hs⟩ | ⟨ds, hs⟩
  · obtain ⟨a', xs, g1, g2, _⟩ := R.slots i _ hs
    rw [hv] at g1; cases g1
    exact ⟨_, g2, rfl⟩
  · obtain ⟨a', xs, g1, g2, _⟩ := R.slots i _ hs
    rw [hv] at g1; cases g1
    exact ⟨_, g2, rfl⟩
theorem Rep.carry (R : Rep K G ρ sa σ F H st) (s : Stp K G ρ' sa σ' F H F' H' st') : Stp K G ρ sa σ F H F' H' st' := by
  refine ⟨⟨s.rep.sub, fun i sl e => ?_, R.len, R.dis, fun i a h => ?_, s.rep.sta, s.rep.base, s.rep.new, s.rep.sub0, R.sa0, R.saf⟩, s.sub, s.keep, s.new⟩
  · have q := R.slots i sl e
    cases sl with
    | emp => trivial
    | val d => obtain ⟨x, h1, h2⟩ := q; exact ⟨x, h1, h2.mono s.sub⟩
    | lst ds =>
      obtain ⟨a, xs, h1, h2, h3⟩ := q
      exact ⟨a, xs, h1, s.keep _ _ (R.own i a ⟨.inl ⟨ds, e⟩, h1⟩).2.2 h2, h3.mono s.sub⟩
    | dic ds =>
      obtain ⟨a, xs, h1, h2, h3⟩ := q
      exact ⟨a, xs, h1, s.keep _ _ (R.own i a ⟨.inr ⟨ds, e⟩, h1⟩).2.2 h2, h3.mono s.sub⟩
  · obtain ⟨h1, h2, h3⟩ := R.own i a h
    refine ⟨?_, h2, h3⟩
    cases q : F' a with
    | none => rfl
    | some u =>
      rcases s.new a (by rw [q]; exact fun z => nomatch z) with z | z | ⟨ys, z, tz⟩
      · exact (z h1).elim
      · obtain ⟨w, hw⟩ := R.ownAt h
        rw [z] at hw; cases hw
      · obtain ⟨w, hw, nt⟩ := R.ownAtL h
        have e1 := s.keep _ _ h3 hw
        rw [s.rep.sub _ _ z] at e1
        cases e1
        rw [nt] at tz; cases tz
theorem P.carry {α : Type} {r : R α} {Ok : α → Sta → Hp → Hp → Prop} (R : Rep K G ρ sa σ F H st) (h : P K G ρ sa σ F H r Ok) : P K G ρ' sa σ' F H r Ok := by
  cases r with
  | ok a s => exact fun F' H' s' => h F' H' (R.carry s')
  | exc a s => exact fun F' H' s' => h F' H' (R.carry s')
  | bad => exact h
/-- where no exception comes, the wish about exceptions is nothing -/
theorem P.noExc {α : Type} {r : R α} {Ok : α → Sta → Hp → Hp → Prop} (e : GEq G G') (h : P K G ρ sa σ F H (Eng.noExc r) Ok) : P K G' ρ sa σ F H r Ok := by
  cases r with
  | ok a s => exact fun F' H' s' => h F' H' (s'.gh e.symm)
  | exc a s => exact h.elim
  | bad => exact h

/-- an object that is not ours to name is laid, written, or locked -/
structure Apart (G : Gh) (ρ : Env) (sa : SA) (σ : L2.St) (p : Addr) : Prop where
  h0 : G.H0 p = none
  ex : ¬ exA sa p
  ow : ∀ i, ¬ OwnAt ρ σ i p
theorem Rep.apart (R : Rep K G ρ sa σ F H st) {p : Addr} (n : H p = none) : Apart G ρ sa σ p ∧ F p = none := by
  have nex : ¬ exA sa p := fun e => by
    obtain ⟨_, u, q⟩ := R.sta.at e
    rw [n] at q; cases q
  refine ⟨⟨?_, nex, fun i h => ?_⟩, ?_⟩
  · cases q : G.H0 p with
    | none => rfl
    | some u => rw [R.base p u nex q] at n; cases n
  · obtain ⟨u, q⟩ := R.ownAt h
    rw [n] at q; cases q
  · cases q : F p with
    | none => rfl
    | some u => rw [R.sub _ _ q] at n; cases n
theorem Rep.put {p : Addr} {o : HO} (R : Rep K G ρ sa σ F H st) (a : Apart G ρ sa σ p) (nF : F p = none) : Rep K G ρ sa σ F (upd H p o) st := by
  refine ⟨fun b u e => ?_, fun i sl e => ?_, R.len, R.dis, R.own, R.sta.keep (fun _ _ => rfl) (fun b e => upd_ne fun z => a.ex (z ▸ e)), fun b u hb e => ?_, R.new, R.sub0, R.sa0, R.saf⟩
  · rw [upd_ne (ne_of_none e nF)]; exact R.sub b u e
  · have q := R.slots i sl e
    cases sl with
    | emp => trivial
    | val d => exact q
    | lst ds =>
      obtain ⟨b, xs, h1, h2, h3⟩ := q
      refine ⟨b, xs, h1, ?_, h3⟩
      have ne : b ≠ p := fun z => by subst z; exact a.ow i ⟨.inl ⟨ds, e⟩, h1⟩
      rw [upd_ne ne]; exact h2
    | dic ds =>
      obtain ⟨b, xs, h1, h2, h3⟩ := q
      refine ⟨b, xs, h1, ?_, h3⟩
      have ne : b ≠ p := fun z => by subst z; exact a.ow i ⟨.inr ⟨ds, e⟩, h1⟩
      rw [upd_ne ne]; exact h2
  · have ne : b ≠ p := fun z => by subst z; rw [a.h0] at e; cases e
    rw [upd_ne ne]; exact R.base b u hb e
theorem Rep.freeze {p : Addr} {o : HO} (R : Rep K G ρ sa σ F H st) (a : Apart G ρ sa σ p) (nF : F p = none) (h : H p = some o) : Rep K G ρ sa σ (upd F p o) H st := by
  have sF : Sub F (upd F p o) := Sub.upd nF
  refine ⟨fun b u e => ?_, fun i sl e => ?_, R.len, R.dis, fun i b z => ?_, R.sta.keep (fun b e => upd_ne fun z => a.ex (z ▸ e)) (fun _ _ => rfl), R.base, fun b z => ?_, R.sub0.trans sF, R.sa0, R.saf⟩
  · by_cases hb : b = p
    · subst hb; rw [upd_same] at e; cases e; exact h
    · rw [upd_ne hb] at e; exact R.sub b u e
  · have q := R.slots i sl e
    cases sl with
    | emp => trivial
    | val d => obtain ⟨x, h1, h2⟩ := q; exact ⟨x, h1, h2.mono sF⟩
    | lst ds => obtain ⟨b, xs, h1, h2, h3⟩ := q; exact ⟨b, xs, h1, h2, h3.mono sF⟩
    | dic ds => obtain ⟨b, xs, h1, h2, h3⟩ := q; exact ⟨b, xs, h1, h2, h3.mono sF⟩
  · obtain ⟨h1, h2, h3⟩ := R.own i b z
    have ne : b ≠ p := fun q => by subst q; exact a.ow i z
    exact ⟨by rw [upd_ne ne]; exact h1, h2, h3⟩
  · by_cases hb : b = p
    · subst hb; exact .inr (.inl a.h0)
    · rw [upd_ne hb] at z ⊢; exact R.new b z
end

/-! ### targets -/
def tgLen : Tgs → Nat
  | .nil => 0
  | .cons _ ts => tgLen ts + 1
mutual
def gOf (K : PySem.W.Frag) : Tg → TG
  | .name i => gName i
  | .tup ts => fun v σ H Q => gTup K (tgLen ts) (gsOf K ts) v σ H Q ∨ gUnl K (tgLen ts) (gsOf K ts) v σ H Q
def gsOf (K : PySem.W.Frag) : Tgs → TGs
  | .nil => gNil
  | .cons t ts => gCons (gOf K t) (gsOf K ts)
end
mutual
/-- all names of a target are among these -/
def tgIn (vs : List Nat) : Tg → Bool
  | .name i => decide (i ∈ vs)
  | .tup ts => tgsIn vs ts
def tgsIn (vs : List Nat) : Tgs → Bool
  | .nil => true
  | .cons t ts => tgIn vs t && tgsIn vs ts
end
/-- the same but at some places -/
def SameOut (vs : List Nat) (σ σ' : L2.St) : Prop := σ'.length = σ.length ∧ ∀ j, j ∉ vs → σ'[j]? = σ[j]?
section
variable {K : PySem.W.Frag} {G : Gh} {ρ ρ' : Env} {sa : SA} {σ : L2.St} {F H : Hp} {st : Sta}
theorem getElem?_set_cases {α : Type} {l : List α} {i j : Nat} {x y : α} (h : (l.set i x)[j]? = some y) : (j = i ∧ i < l.length ∧ y = x) ∨ (j ≠ i ∧ l[j]? = some y) := by
  by_cases e : i = j
  · subst e
    by_cases hl : i < l.length
    · rw [List.getElem?_set_self hl] at h
      exact .inl ⟨rfl, hl, (Option.some.inj h).symm⟩
    · rw [List.getElem?_eq_none (by simpa using hl)] at h; cases h
  · rw [List.getElem?_set_ne e] at h
    exact .inr ⟨fun z => e z.symm, h⟩
theorem OwnAt.of_set {i j : Nat} {d : Slot} {v : Option V} {a : Addr} (hd : (∀ ds, d ≠ .lst ds) ∧ ∀ ds, d ≠ .dic ds) (h : OwnAt (ρ.set i d) (σ.set i v) j a) : j ≠ i ∧ OwnAt ρ σ j a := by
  obtain ⟨hs, hv⟩ := h
  have key : ∀ s, (ρ.set i d)[j]? = some s → ((∃ ds, s = .lst ds) ∨ ∃ ds, s = .dic ds) → j ≠ i ∧ ρ[j]? = some s := fun s e z => by
    rcases getElem?_set_cases e with ⟨_, _, q⟩ | ⟨ne, q⟩
    · subst q
      rcases z with ⟨ds, z⟩ | ⟨ds, z⟩
      · exact (hd.1 ds z).elim
      · exact (hd.2 ds z).elim
    · exact ⟨ne, q⟩
  rcases hs with ⟨ds, hs⟩ | ⟨ds, hs⟩
  · obtain ⟨ne, q⟩ := key _ hs (.inl ⟨ds, rfl⟩)
    exact ⟨ne, .inl ⟨ds, q⟩, by rw [List.getElem?_set_ne (Ne.symm ne)] at hv; exact hv⟩
  · obtain ⟨ne, q⟩ := key _ hs (.inr ⟨ds, rfl⟩)
    exact ⟨ne, .inr ⟨ds, q⟩, by rw [List.getElem?_set_ne (Ne.symm ne)] at hv; exact hv⟩
/-- a name is given a value that stands still; or forgotten -/
theorem Rep.set (R : Rep K G ρ sa σ F H st) (i : Nat) {d : Slot} {v : Option V} (hd : d = .emp ∨ ∃ e x, d = .val e ∧ v = some x ∧ Rp K sa F x e) : Rep K G (ρ.set i d) sa (σ.set i v) F H st := by
  have nd : (∀ ds, d ≠ .lst ds) ∧ ∀ ds, d ≠ .dic ds := by
    rcases hd with rfl | ⟨e, x, rfl, _⟩ <;> exact And.intro (fun _ z => by cases z) (fun _ z => by cases z)
  refine ⟨R.sub, fun j s e => ?_, by rw [List.length_set, List.length_set, R.len], fun j k a h1 h2 => ?_, fun j a h => R.own j a (OwnAt.of_set nd h).2, R.sta, R.base, R.new, R.sub0, R.sa0, R.saf⟩
  · rcases getElem?_set_cases e with ⟨e1, hl, q⟩ | ⟨ne, q⟩
    · subst e1 q
      have hl' : j < σ.length := by rw [← R.len]; exact hl
      rcases hd with rfl | ⟨e', x, rfl, rfl, hr⟩
      · trivial
      · exact ⟨x, List.getElem?_set_self hl', hr⟩
    · have w := R.slots j s q
      rw [List.getElem?_set_ne (Ne.symm ne)]
      exact w
  · exact R.dis j k a (OwnAt.of_set nd h1).2 (OwnAt.of_set nd h2).2
/-- an item of enumerate, of zip: a pair whose object is not known -/
def Wk (K : PySem.W.Frag) (sa : SA) (F : Hp) (v : V) (d : D) : Prop := ∃ a xs ds, v = .ref a ∧ d = .tuple ds ∧ F a = some (.tup xs) ∧ RpA K sa F xs ds
def nameTg : Tg → Bool
  | .name _ => true
  | .tup _ => false
theorem bind_len : ∀ (ts : Tgs) {ds : List D} {ρ ρ' : Env}, bindTg.bindTgs ts ds ρ = some ρ' → ds.length = tgLen ts
  | .nil, [], _, _, _ => rfl
  | .nil, _ :: _, _, _, e => by simp [bindTg.bindTgs] at e
  | .cons _ _, [], _, _, e => by simp [bindTg.bindTgs] at e
  | .cons t ts, d :: ds, ρ, ρ', e => by
    simp only [bindTg.bindTgs, Option.bind_eq_some_iff] at e
    obtain ⟨ρ1, _, e2⟩ := e
    show ds.length + 1 = tgLen ts + 1
    rw [bind_len ts e2]
mutual
theorem g_ok {vs : List Nat} : ∀ (tg : Tg) {d : D} {v : V} {ρ ρ' : Env} {σ : L2.St} {Q : L2.St → Hp → Prop}, bindTg tg d ρ = some ρ' → Rep K G ρ sa σ F H st → (Rp K sa F v d ∨ (nameTg tg = false ∧ Wk K sa F v d)) → tgIn vs tg = true →
    (∀ σ', Rep K G ρ' sa σ' F H st → SameOut vs σ σ' → Q σ' H) → gOf K tg v σ H Q
  | .name i, d, v, ρ, ρ', σ, Q, e, R, r, hv, q => by
    unfold bindTg at e
    split at e
    · cases e
      refine q _ (R.set i (.inr ⟨d, v, rfl, rfl, r.resolve_right fun z => by cases z.1⟩)) ⟨List.length_set, fun j hj => ?_⟩
      have : i ≠ j := fun z => hj (z ▸ of_decide_eq_true hv)
      rw [List.getElem?_set_ne this]
    · cases e
  | .tup ts, d, v, ρ, ρ', σ, Q, e, R, r, hv, q => by
    unfold bindTg at e
    split at e
    · rename_i ds
      rcases r with r | ⟨_, a, xs, ds', rfl, z, h, ra⟩
      · cases r with
        | tup h ra =>
          exact .inl ⟨_, _, rfl, .inl (.inr ⟨_, R.sub _ _ h⟩), by rw [ra.length, bind_len _ e], gs_ok ts e R ra hv q⟩
        | tupK h ra =>
          exact .inl ⟨_, _, rfl, Sub.nil.sqT h.1, by rw [ra.length, bind_len _ e], gs_ok ts e R ra hv q⟩
      · cases z
        exact .inl ⟨_, _, rfl, .inl (.inl (R.sub _ _ h)), by rw [ra.length, bind_len _ e], gs_ok ts e R ra hv q⟩
    · rename_i ds
      rcases r with r | ⟨_, a, xs, ds', rfl, z, _⟩
      · cases r with
        | lst h ra =>
          exact .inr ⟨_, _, rfl, .inl (.inl (R.sub _ _ h)), by rw [ra.length, bind_len _ e], gs_ok ts e R ra hv q⟩
      · cases z
    · cases e
theorem gs_ok {vs : List Nat} : ∀ (ts : Tgs) {ds : List D} {xs : List V} {ρ ρ' : Env} {σ : L2.St} {Q : L2.St → Hp → Prop}, bindTg.bindTgs ts ds ρ = some ρ' → Rep K G ρ sa σ F H st → RpA K sa F xs ds → tgsIn vs ts = true →
    (∀ σ', Rep K G ρ' sa σ' F H st → SameOut vs σ σ' → Q σ' H) → gsOf K ts xs σ H Q
  | .nil, ds, xs, ρ, ρ', σ, Q, e, R, r, hv, q => by
    cases r with
    | nil =>
      simp only [bindTg.bindTgs] at e
      cases e
      exact ⟨rfl, q σ R ⟨rfl, fun _ _ => rfl⟩⟩
    | cons _ _ => simp [bindTg.bindTgs] at e
  | .cons t ts, ds, xs, ρ, ρ', σ, Q, e, R, r, hv, q => by
    cases r with
    | nil => simp [bindTg.bindTgs] at e
    | cons r1 r2 =>
      simp only [bindTg.bindTgs, Option.bind_eq_some_iff] at e
      obtain ⟨ρ1, e1, e2⟩ := e
      rw [tgsIn, Bool.and_eq_true] at hv
      refine ⟨_, _, rfl, g_ok t e1 R (.inl r1) hv.1 fun σ1 R1 s1 => ?_⟩
      exact gs_ok ts e2 R1 r2 hv.2 fun σ2 R2 s2 => q σ2 R2 ⟨s2.1.trans s1.1, fun j hj => (s2.2 j hj).trans (s1.2 j hj)⟩
end
/-! ### the names of a block -/
theorem wipe_get (σ : L2.St) (j : Nat) : ∀ vs : List Nat, (wipe σ vs)[j]? = if j ∈ vs ∧ j < σ.length then some none else σ[j]?
  | [] => by simp [wipe]
  | v :: vs => by
    unfold wipe
    by_cases e : v = j
    · subst e
      by_cases hl : v < σ.length
      · rw [List.getElem?_set_self (by rw [wipe_length]; exact hl), if_pos ⟨List.mem_cons_self, hl⟩]
      · rw [List.getElem?_eq_none (by rw [List.length_set, wipe_length]; omega), if_neg (fun z => hl z.2), List.getElem?_eq_none (by omega)]
    · rw [List.getElem?_set_ne e, wipe_get σ j vs]
      have : (j ∈ v :: vs) ↔ j ∈ vs := by rw [List.mem_cons]; exact ⟨fun z => z.resolve_left fun q => e q.symm, .inr⟩
      simp only [this]
theorem wipe_same {vs : List Nat} {σ σ2 : L2.St} (h : SameOut vs (wipe σ vs) σ2) : wipe σ2 vs = wipe σ vs := by
  apply List.ext_getElem?
  intro j
  rw [wipe_get, wipe_get]
  have hl : σ2.length = σ.length := h.1.trans (wipe_length σ vs)
  by_cases hj : j ∈ vs
  · by_cases hlt : j < σ.length
    · rw [if_pos ⟨hj, by omega⟩, if_pos ⟨hj, hlt⟩]
    · rw [if_neg (fun z => hlt (by omega)), if_neg (fun z => hlt z.2), List.getElem?_eq_none (by omega), List.getElem?_eq_none (by omega)]
  · rw [if_neg (fun z => hj z.1), if_neg (fun z => hj z.1), h.2 j hj, wipe_get, if_neg (fun z => hj z.1)]
theorem Rep.wipe (R : Rep K G ρ sa σ F H st) : ∀ vs : List Nat, Rep K G (wipeE ρ vs) sa (wipe σ vs) F H st
  | [] => R
  | v :: vs => (R.wipe vs).set v (.inl rfl)
end

/-! ### what is walked -/
section
variable {K : PySem.W.Frag} {G : Gh} {ρ ρ' : Env} {sa : SA} {σ : L2.St} {F H : Hp} {st : Sta}
/-- the iterator J gives ds, wherever the ground F and Bp stand -/
def JOk (K : PySem.W.Frag) (sa : SA) (F : Hp) (Bp : Hp → Prop) (wk : Bool) (J : L2.It) (ds : List D) : Prop :=
  ∀ F' H', Sub F F' → Sub F' H' → Bp H' → ∀ (i : Nat), (∀ d, ds[i]? = some d → J.go i H' ∧ ∀ x H'', J.yld i H' x H'' → (H'' = H' ∧ Rp K sa F' x d) ∨ ∃ p o, H' p = none ∧ H'' = upd H' p o ∧ wk = true ∧ Wk K sa (upd F' p o) x d) ∧
    (ds.length ≤ i → J.stop i H')
/-- what must stand: for a comprehension all but the state object -/
def Bo (o : Bool) (sa : SA) (H : Hp) : Hp → Prop := fun H' => o = true → ∀ b u, ¬ exA sa b → H b = some u → H' b = some u
def wkIt : It → Bool
  | .enum _ => true
  | .zip _ _ => true
  | _ => false
def wkOk : It → Tg → Bool
  | .enum _, .name _ => false
  | .zip _ _, .name _ => false
  | _, _ => true
theorem wkOk_use {it : It} {tg : Tg} (h : wkOk it tg = true) (hw : wkIt it = true) : nameTg tg = false := by
  cases tg with
  | tup _ => rfl
  | name i => cases it <;> first | (cases hw; done) | cases h
def tgOk (vs : List Nat) (it : It) (tg : Tg) : Bool := tgIn vs tg && wkOk it tg
theorem tgOk_in {vs : List Nat} {it : It} {tg : Tg} (h : tgOk vs it tg = true) : tgIn vs tg = true := (Bool.and_eq_true _ _ ▸ h).1
theorem tgOk_wk {vs : List Nat} {it : It} {tg : Tg} (h : tgOk vs it tg = true) (hw : wkIt it = true) : nameTg tg = false := wkOk_use (Bool.and_eq_true _ _ ▸ h).2 hw
def TIt (K : PySem.W.Frag) (G : Gh) (cl : Calls) (gl : List D) (o : Bool) (it : It) : TI := fun σ H Q => ∃ ρ sa F st, Rep K G ρ sa σ F H st ∧ P K G ρ sa σ F H (evIt cl gl ρ o it st) fun ds _ F' H' => ∀ J, JOk K sa F' (Bo o sa H') (wkIt it) J ds → Q J H'
theorem SqL.at {H : Hp} {a : Addr} {xs ys : List V} (h : H a = some (.lst xs)) (h' : SqL K H a ys) (nk : ∀ o, K.lookup a ≠ some o ∨ True) : Rd H a (.lst ys) ∨ ∃ o, K.lookup a = some o := by
  rcases h' with h' | ⟨o, its, n, e, _⟩
  · exact .inl h'
  · exact .inr ⟨o, e⟩
/-- where a list stands, whoever holds it -/
theorem Rq.stand {o : Bool} {v : V} {ds : List D} (h : Rq K sa o F H v (.list ds)) (R : Rep K G ρ sa σ F H st) : ∃ a xs, v = .ref a ∧ H a = some (.lst xs) ∧ RpA K sa F xs ds ∧ ∀ F' H', Sub F F' → Sub F' H' → Bo o sa H H' → H' a = some (.lst xs) := by
  rcases h with h | ⟨ho, a, e, nex, h⟩
  · cases h with
    | lst h r => exact ⟨_, _, rfl, R.sub _ _ h, r, fun F' H' s1 s2 _ => s2 _ _ (s1 _ _ h)⟩
  · rcases h with ⟨xs, ds', e1, e2, e3⟩ | ⟨_, _, e1, _⟩
    · cases e1
      exact ⟨a, xs, e, e2, e3, fun F' H' _ _ b => b ho _ _ nex e2⟩
    · cases e1
theorem SqL.uniq {H : Hp} {a : Addr} {xs ys : List V} (h : H a = some (.lst xs)) (h' : Rd H a (.lst ys)) : ys = xs := by
  rcases h' with h' | ⟨o, h'⟩
  · rw [h] at h'; cases h'; rfl
  · rw [h] at h'; cases h'
theorem jok_list {a : Addr} {xs : List V} {ds : List D} {Bp : Hp → Prop} (h : ∀ F' H', Sub F F' → Sub F' H' → Bp H' → H' a = some (.lst xs)) (r : RpA K sa F xs ds) : JOk K sa F Bp false (Itl K a) ds := by
  intro F' H' s1 s2 b i
  have q := h F' H' s1 s2 b
  refine ⟨fun d e => ?_, fun hl => ⟨xs, .inl (.inl q), by rw [r.length]; exact hl⟩⟩
  obtain ⟨y, e1, e2⟩ := r.get e
  refine ⟨⟨xs, y, .inl (.inl q), e1⟩, fun x H'' hy => .inl ⟨hy.1, ?_⟩⟩
  have e3 := hy.2 xs (.inl (.inl q))
  rw [e1] at e3
  cases e3
  exact e2.mono s1
theorem jok_tup {a : Addr} {xs : List V} {ds : List D} {Bp : Hp → Prop} (h : SqT K F a xs) (r : RpA K sa F xs ds) : JOk K sa F Bp false (Itt K a) ds := by
  intro F' H' s1 s2 b i
  have q := s2.sqT (s1.sqT h)
  refine ⟨fun d e => ?_, fun hl => ⟨xs, q, by rw [r.length]; exact hl⟩⟩
  obtain ⟨y, e1, e2⟩ := r.get e
  refine ⟨⟨xs, y, q, e1⟩, fun x H'' hy => .inl ⟨hy.1, ?_⟩⟩
  have e3 := hy.2 xs q
  rw [e1] at e3
  cases e3
  exact e2.mono s1
theorem rangeD_get {lo c : Int} {n i : Nat} {d : D} (h : (rangeD lo c n)[i]? = some d) : i < n ∧ d = .int (lo + (i : Nat) * c) := by
  unfold rangeD at h
  rw [List.getElem?_map] at h
  by_cases hi : i < n
  · rw [List.getElem?_range hi] at h
    cases h
    exact ⟨hi, rfl⟩
  · rw [List.getElem?_eq_none (by rw [List.length_range]; omega)] at h; cases h
theorem rangeD_length {lo c : Int} {n : Nat} : (rangeD lo c n).length = n := by unfold rangeD; rw [List.length_map, List.length_range]
theorem jok_rng {lo : Int} {n : Nat} {Bp : Hp → Prop} : JOk K sa F Bp false (Itr lo n) (rangeD lo 1 n) := by
  intro F' H' s1 s2 b i
  refine ⟨fun d e => ?_, fun hl => by rw [rangeD_length] at hl; exact hl⟩
  obtain ⟨h1, h2⟩ := rangeD_get e
  refine ⟨h1, fun x H'' hy => .inl ⟨hy.1, ?_⟩⟩
  rw [hy.2, h2, Int.mul_one]
  exact .int _
theorem jok_rngC {lo c : Int} {n : Nat} {Bp : Hp → Prop} : JOk K sa F Bp false (Itc lo c n) (rangeD lo c n) := by
  intro F' H' s1 s2 b i
  refine ⟨fun d e => ?_, fun hl => by rw [rangeD_length] at hl; exact hl⟩
  obtain ⟨h1, h2⟩ := rangeD_get e
  refine ⟨h1, fun x H'' hy => .inl ⟨hy.1, ?_⟩⟩
  rw [hy.2, h2]
  exact .int _
theorem enumD_get : ∀ {ds : List D} {k i : Nat} {d : D}, (enumD k ds)[i]? = some d → ∃ z, ds[i]? = some z ∧ d = .tuple [.int ((k + i : Nat) : Int), z]
  | [], _, _, _, h => by simp [enumD] at h
  | x :: xs, k, 0, d, h => by cases h; exact ⟨x, rfl, rfl⟩
  | x :: xs, k, i + 1, d, h => by
    obtain ⟨z, h1, h2⟩ := enumD_get (ds := xs) (k := k + 1) (i := i) h
    exact ⟨z, h1, by rw [h2, show k + 1 + i = k + (i + 1) by omega]⟩
theorem enumD_length : ∀ (ds : List D) (k : Nat), (enumD k ds).length = ds.length
  | [], _ => rfl
  | x :: xs, k => by show (enumD (k + 1) xs).length + 1 = xs.length + 1; rw [enumD_length xs]
theorem jok_enum {a : Addr} {xs : List V} {ds : List D} {Bp : Hp → Prop} (h : ∀ F' H', Sub F F' → Sub F' H' → Bp H' → H' a = some (.lst xs)) (r : RpA K sa F xs ds) : JOk K sa F Bp true (Ite K a) (enumD 0 ds) := by
  intro F' H' s1 s2 b i
  have q := h F' H' s1 s2 b
  refine ⟨fun d e => ?_, fun hl => ⟨xs, .inl (.inl q), by rw [r.length]; rw [enumD_length] at hl; exact hl⟩⟩
  obtain ⟨z, e0, rfl⟩ := enumD_get e
  obtain ⟨y, e1, e2⟩ := r.get e0
  refine ⟨⟨xs, y, .inl (.inl q), e1⟩, fun x H'' hy => .inr ?_⟩
  obtain ⟨T, w, rfl, nT, rfl, f⟩ := hy
  have e3 := f xs (.inl (.inl q))
  rw [e1] at e3
  cases e3
  refine ⟨T, _, nT, rfl, rfl, _, _, _, rfl, rfl, upd_same, .cons ?_ (.cons ?_ .nil)⟩
  · rw [Nat.zero_add]; exact .int _
  · have nF : F' T = none := by
      cases z : F' T with
      | none => rfl
      | some u => rw [s2 _ _ z] at nT; cases nT
    exact (e2.mono s1).mono (Sub.upd nF)
theorem jok_enumT {a : Addr} {xs : List V} {ds : List D} {Bp : Hp → Prop} (h : SqT K F a xs) (r : RpA K sa F xs ds) : JOk K sa F Bp true (EnT.ItT K a) (enumD 0 ds) := by
  intro F' H' s1 s2 b i
  have q : SqT K H' a xs := (s1.trans s2).sqT h
  refine ⟨fun d e => ?_, fun hl => ⟨xs, q, by rw [r.length]; rw [enumD_length] at hl; exact hl⟩⟩
  obtain ⟨z, e0, rfl⟩ := enumD_get e
  obtain ⟨y, e1, e2⟩ := r.get e0
  refine ⟨⟨xs, y, q, e1⟩, fun x H'' hy => .inr ?_⟩
  obtain ⟨T, w, rfl, nT, rfl, f⟩ := hy
  have e3 := f xs q
  rw [e1] at e3
  cases e3
  refine ⟨T, _, nT, rfl, rfl, _, _, _, rfl, rfl, upd_same, .cons ?_ (.cons ?_ .nil)⟩
  · rw [Nat.zero_add]; exact .int _
  · have nF : F' T = none := by
      cases z : F' T with
      | none => rfl
      | some u => rw [s2 _ _ z] at nT; cases nT
    exact (e2.mono s1).mono (Sub.upd nF)
theorem zipD_get : ∀ {ds es : List D} {i : Nat} {d : D}, (zipD ds es)[i]? = some d → ∃ z w, ds[i]? = some z ∧ es[i]? = some w ∧ d = .tuple [z, w]
  | [], _, _, _, h => by simp [zipD] at h
  | _ :: _, [], _, _, h => by simp [zipD] at h
  | x :: xs, y :: ys, 0, d, h => by cases h; exact ⟨x, y, rfl, rfl, rfl⟩
  | x :: xs, y :: ys, i + 1, d, h => zipD_get (ds := xs) (es := ys) (i := i) h
theorem zipD_length : ∀ (ds es : List D), (zipD ds es).length = min ds.length es.length
  | [], _ => by simp [zipD]
  | _ :: _, [] => by simp [zipD]
  | x :: xs, y :: ys => by simp only [zipD, List.length_cons, zipD_length xs ys]; omega
theorem jok_zip {a a2 : Addr} {xs ys : List V} {ds es : List D} {Bp : Hp → Prop} (h : ∀ F' H', Sub F F' → Sub F' H' → Bp H' → H' a = some (.lst xs)) (r : RpA K sa F xs ds) (h2 : ∀ F' H', Sub F F' → Sub F' H' → Bp H' → H' a2 = some (.lst ys)) (r2 : RpA K sa F ys es) :
    JOk K sa F Bp true (Itz K a a2) (zipD ds es) := by
  intro F' H' s1 s2 b i
  have q := h F' H' s1 s2 b
  have q2 := h2 F' H' s1 s2 b
  refine ⟨fun d e => ?_, fun hl => ⟨xs, ys, .inl (.inl q), .inl (.inl q2), by rw [r.length, r2.length]; rw [zipD_length] at hl; omega⟩⟩
  obtain ⟨z, w, e0, f0, rfl⟩ := zipD_get e
  obtain ⟨y, e1, e2⟩ := r.get e0
  obtain ⟨y2, f1, f2⟩ := r2.get f0
  refine ⟨⟨xs, ys, y, y2, .inl (.inl q), .inl (.inl q2), e1, f1⟩, fun x H'' hy => .inr ?_⟩
  obtain ⟨T, u, v, rfl, nT, rfl, g1, g2⟩ := hy
  have e3 := g1 xs (.inl (.inl q))
  rw [e1] at e3
  cases e3
  have e4 := g2 ys (.inl (.inl q2))
  rw [f1] at e4
  cases e4
  have nF : F' T = none := by
    cases z : F' T with
    | none => rfl
    | some u => rw [s2 _ _ z] at nT; cases nT
  exact ⟨T, _, nT, rfl, rfl, _, _, _, rfl, rfl, upd_same, (.cons ((e2.mono s1).mono (Sub.upd nF)) (.cons ((f2.mono s1).mono (Sub.upd nF)) .nil))⟩
theorem jok_zipT {a a2 : Addr} {xs ys : List V} {ds es : List D} {Bp : Hp → Prop} (h : SqT K F a xs) (r : RpA K sa F xs ds) (h2 : SqT K F a2 ys) (r2 : RpA K sa F ys es) :
    JOk K sa F Bp true (RZ.ItzT K a a2) (zipD ds es) := by
  intro F' H' s1 s2 b i
  have q := s2.sqT (s1.sqT h)
  have q2 := s2.sqT (s1.sqT h2)
  refine ⟨fun d e => ?_, fun hl => ⟨xs, ys, q, q2, by rw [r.length, r2.length]; rw [zipD_length] at hl; omega⟩⟩
  obtain ⟨z, w, e0, f0, rfl⟩ := zipD_get e
  obtain ⟨y, e1, e2⟩ := r.get e0
  obtain ⟨y2, f1, f2⟩ := r2.get f0
  refine ⟨⟨xs, ys, y, y2, q, q2, e1, f1⟩, fun x H'' hy => .inr ?_⟩
  obtain ⟨T, u, v, rfl, nT, rfl, g1, g2⟩ := hy
  have e3 := g1 xs q
  rw [e1] at e3
  cases e3
  have e4 := g2 ys q2
  rw [f1] at e4
  cases e4
  have nF : F' T = none := by
    cases z : F' T with
    | none => rfl
    | some u => rw [s2 _ _ z] at nT; cases nT
  exact ⟨T, _, nT, rfl, rfl, _, _, _, rfl, rfl, upd_same, (.cons ((e2.mono s1).mono (Sub.upd nF)) (.cons ((f2.mono s1).mono (Sub.upd nF)) .nil))⟩
theorem rev_get {α : Type} {l : List α} {i : Nat} {x : α} (h : l.reverse[i]? = some x) : i < l.length ∧ l[l.length - 1 - i]? = some x := by
  have hi : i < l.length := by
    have := (List.getElem?_eq_some_iff.mp h).1
    rwa [List.length_reverse] at this
  rw [List.getElem?_reverse hi] at h
  exact ⟨hi, h⟩
theorem jok_rev {a : Addr} {xs : List V} {ds : List D} {Bp : Hp → Prop} (h : ∀ F' H', Sub F F' → Sub F' H' → Bp H' → H' a = some (.lst xs)) (r : RpA K sa F xs ds) : JOk K sa F Bp false (Itv K a xs.length) ds.reverse := by
  intro F' H' s1 s2 b i
  have q := h F' H' s1 s2 b
  refine ⟨fun d e => ?_, fun hl => by rw [List.length_reverse] at hl; show xs.length ≤ i; rw [r.length]; exact hl⟩
  obtain ⟨hi, e⟩ := rev_get e
  rw [← r.length] at hi e
  obtain ⟨y, e1, e2⟩ := r.get e
  refine ⟨⟨hi, xs, y, .inl (.inl q), e1⟩, fun x H'' hy => .inl ⟨hy.1, ?_⟩⟩
  have e3 := hy.2 xs (.inl (.inl q))
  rw [e1] at e3
  cases e3
  exact e2.mono s1
theorem jok_revT {a : Addr} {xs : List V} {ds : List D} {Bp : Hp → Prop} (h : SqT K F a xs) (r : RpA K sa F xs ds) : JOk K sa F Bp false (RT.ItvT K a xs.length) ds.reverse := by
  intro F' H' s1 s2 b i
  have q := s2.sqT (s1.sqT h)
  refine ⟨fun d e => ?_, fun hl => by rw [List.length_reverse] at hl; show xs.length ≤ i; rw [r.length]; exact hl⟩
  obtain ⟨hi, e⟩ := rev_get e
  rw [← r.length] at hi e
  obtain ⟨y, e1, e2⟩ := r.get e
  refine ⟨⟨hi, xs, y, q, e1⟩, fun x H'' hy => .inl ⟨hy.1, ?_⟩⟩
  have e3 := hy.2 xs q
  rw [e1] at e3
  cases e3
  exact e2.mono s1
end
end Eng

end
section
set_option Elab.async false
set_option linter.all false
set_option maxRecDepth 100000
set_option maxHeartbeats 4000000
set_option autoImplicit false
/-! Eng, part F: the readings of expressions. -/
namespace Eng
open PySem PySem.Spec PyProof.Rows L2
/-- a < b < c < d -/
def tChain3 (r r' r'' : R2) (ta tb tc td : TE) : TE := fun σ H Q => ta σ H fun x H1 => tb σ H1 fun y H2 => r x y H2 fun z H3 => ∃ k, z = .bl k ∧ (if k = true then tc σ H3 fun x' H4 => r' y x' H4 (fun z' H5 => ∃ k', z' = .bl k' ∧ (if k' = true then td σ H5 fun y' H6 => r'' x' y' H6 Q else Q (.bl false) H5)) else Q (.bl false) H3)
section
variable {X : Cx} {a b c d : Expr} {ta tb tc td : TE} {pos : Pos}
theorem pe_chain3 {op op' op'' : CmpOp} {r r' r'' : R2} (ho : OpR X (compareOp op) r) (ho' : OpR X (compareOp op') r') (ho'' : OpR X (compareOp op'') r'') (ha : PE X a ta) (hb : PE X b tb) (hc : PE X c tc) (hd : PE X d td)
    (hm : lastMarks [op, op', op''] [b, c, d] = false) : PE X (.Compare a [op, op', op''] [b, c, d] pos) (tChain3 r r' r'' ta tb tc td) := by
  refine ⟨fun pins s σ H Q I h => ?_⟩
  refine Compare_chain (thn (ha.run pins s σ H _ I h) fun v s1 ⟨x, H1, I1, r1, q1⟩ => chain_link (thn (hb.run pins s1 σ H1 _ I1 q1) fun u s2 ⟨y, H2, I2, r2, q2⟩ =>
    thn (ho pins s2 σ H2 x y v u _ I2 r1 r2 q2) fun e s3 ⟨z, H3, I3, r3, k, ek, q3⟩ => ?_)) hm
  subst ek
  cases r3
  refine wpAny_truthy_bool ?_
  cases k with
  | false => exact ite_ff ⟨.bl false, H3, I3, rfl, q3⟩
  | true =>
    refine ite_tt (chain_link (thn (hc.run pins s3 σ H3 _ I3 q3) fun w' s4 ⟨x', H4, I4, r4, q4⟩ => thn (ho' pins s4 σ H4 y x' u w' _ I4 r2 r4 q4) fun e' s5 ⟨z', H5, I5, r5, k', ek', q5⟩ => ?_))
    subst ek'
    cases r5
    refine wpAny_truthy_bool ?_
    cases k' with
    | false => exact ite_ff ⟨.bl false, H5, I5, rfl, q5⟩
    | true => exact ite_tt (chain_last (thn (hd.run pins s5 σ H5 _ I5 q5) fun w'' s6 ⟨y', H6, I6, r6, q6⟩ => ho'' pins s6 σ H6 x' y' w' w'' Q I6 r4 r6 q6))
theorem pt_chain3 {op op' op'' : CmpOp} {r r' r'' : R2} (ho : OpR X (compareOp op) r) (ho' : OpR X (compareOp op') r') (ho'' : OpR X (compareOp op'') r'') (ha : PE X a ta) (hb : PE X b tb) (hc : PE X c tc) (hd : PE X d td)
    (hm : lastMarks [op, op', op''] [b, c, d] = false) : PT X (.Compare a [op, op', op''] [b, c, d] pos) (tTest (tChain3 r r' r'' ta tb tc td)) := by
  refine ⟨fun pins s σ H Q I h => ?_⟩
  refine isTrue_chain (thn (ha.run pins s σ H _ I h) fun v s1 ⟨x, H1, I1, r1, q1⟩ => test_link (thn (hb.run pins s1 σ H1 _ I1 q1) fun u s2 ⟨y, H2, I2, r2, q2⟩ =>
    thn (ho pins s2 σ H2 x y v u _ I2 r1 r2 q2) fun e s3 ⟨z, H3, I3, r3, k, ek, q3⟩ => ?_)) hm
  subst ek
  cases r3
  refine wpAny_truthy_bool ?_
  cases k with
  | false =>
    obtain ⟨k', e', q'⟩ := q3
    cases e'
    exact ite_ff ⟨H3, I3, q'⟩
  | true =>
    refine ite_tt (test_link (thn (hc.run pins s3 σ H3 _ I3 q3) fun w' s4 ⟨x', H4, I4, r4, q4⟩ => thn (ho' pins s4 σ H4 y x' u w' _ I4 r2 r4 q4) fun e' s5 ⟨z', H5, I5, r5, k', ek', q5⟩ => ?_))
    subst ek'
    cases r5
    refine wpAny_truthy_bool ?_
    cases k' with
    | false =>
      obtain ⟨k', e', q'⟩ := q5
      cases e'
      exact ite_ff ⟨H5, I5, q'⟩
    | true =>
      refine ite_tt (test_last (thn (hd.run pins s5 σ H5 _ I5 q5) fun w'' s6 ⟨y', H6, I6, r6, q6⟩ => thn (ho'' pins s6 σ H6 x' y' w' w'' _ I6 r4 r6 q6) fun e'' s7 ⟨z2, H7, I7, r7, k2, e2, q7⟩ => ?_))
      subst e2
      cases r7
      exact wpAny_truthy_bool ⟨H7, I7, q7⟩
end

/-- a call's change -/
structure CStp (sa : SA) (F H F' H' : Hp) (st' : Sta) : Prop where
  sub' : Sub F' H'
  sub : Sub F F'
  keep : ∀ b o, ¬ exA sa b → H b = some o → H' b = some o
  new : ∀ b, F' b ≠ none → F b ≠ none ∨ H b = none ∨ ∃ u, F' b = some u ∧ tpO u = true
  sta : StaOk sa st' F' H'
/-- the promise of the f-th def -/
def spF (K : PySem.W.Frag) (TB : List Addr) (xa : Exn → Value → Option Addr → Hp → Prop) (cl : Calls) (f n : Nat) : Sp := fun vs H Q E =>
  vs.length = n ∧ ∃ sa F st ds, sa.tb = TB ∧ Sub F H ∧ StaOk sa st F H ∧ RpA K sa F vs ds ∧ match cl f ds st with
    | .ok d st' => ∀ F' H' v, CStp sa F H F' H' st' → Rp K sa F' v d → Q v H'
    | .exc e st' => ∀ F' H' cls dx, CStp sa F H F' H' st' → xa e cls dx H' → E cls dx H'
    | .bad => False

section
variable {K : PySem.W.Frag} {G G' : Gh} {cl : Calls} {gl : List D} {σ : L2.St} {H : Hp} {Q : VK} {o : Bool}
theorem P.self {α : Type} {ρ : Env} {sa : SA} {F : Hp} {r : R α} {Ok : α → Sta → Hp → Hp → Prop} (h : P K G ρ sa σ F H r Ok) : P K G ρ sa σ F H r fun a st F' H' => r = .ok a st ∧ Ok a st F' H' := by
  cases r with
  | ok a st => exact fun F' H' s => ⟨rfl, h F' H' s⟩
  | exc _ _ => exact h
  | bad => exact h
theorem T_var {i : Nat} : T K G cl gl o (.var i) σ H Q → tVar i σ H Q := by
  rintro ⟨ρ, sa, F, st, R, p⟩
  simp only [ev] at p
  split at p
  · rename_i d e
    obtain ⟨x, h1, h2⟩ := R.slots i _ e
    exact ⟨x, h1, p.here R x (.inl h2)⟩
  · exact p.elim
theorem T_bor {i : Nat} : T K G cl gl o (.bor i) σ H Q → tVar i σ H Q := by
  rintro ⟨ρ, sa, F, st, R, p⟩
  simp only [ev] at p
  split at p
  · rename_i d e
    obtain ⟨x, h1, h2⟩ := R.slots i _ e
    exact ⟨x, h1, p.here R x (.inl h2)⟩
  · rename_i ds e
    split at p
    · rename_i ho
      obtain ⟨a, xs, h1, h2, h3⟩ := R.slots i _ e
      exact ⟨_, h1, p.here R _ (.inr ⟨ho, a, rfl, (R.own i a ⟨.inl ⟨ds, e⟩, h1⟩).2.2, .inl ⟨xs, ds, rfl, h2, h3⟩⟩)⟩
    · exact p.elim
  · rename_i ds e
    split at p
    · rename_i ho
      obtain ⟨a, xs, h1, h2, h3⟩ := R.slots i _ e
      exact ⟨_, h1, p.here R _ (.inr ⟨ho, a, rfl, (R.own i a ⟨.inr ⟨ds, e⟩, h1⟩).2.2, .inr ⟨xs, ds, rfl, h2, h3⟩⟩)⟩
    · exact p.elim
  · exact p.elim
def cV : D → V
  | .none => .non
  | .bool b => .bl b
  | .int i => .int i
  | .str x => .str x
  | _ => .non
theorem T_const {d : D} (hd : flatD d = true) : T K G cl gl o (.const d) σ H Q → tC (cV d) σ H Q := by
  rintro ⟨ρ, sa, F, st, R, p⟩
  have q := P.here (st := st) p R
  refine q _ (.inl ?_)
  cases d <;> first | exact .non | exact .bl _ | exact .int _ | exact .str _ | (simp [flatD] at hd)
theorem T_glob {i : Nat} {d : D} {v : V} (hd : gl[i]? = some d) (hr : ∀ sa F, Rp K sa F v d) : T K G cl gl o (.glob i) σ H Q → tC v σ H Q := by
  rintro ⟨ρ, sa, F, st, R, p⟩
  simp only [ev, hd, Eng.R.of_some] at p
  exact p.here R _ (.inl (hr _ _))
theorem T_bin {op : BOp} {a b : E} : T K G cl gl o (.bin op a b) σ H Q → tOp (rBin K op) (T K G cl gl true a) (T K G cl gl true b) σ H Q := by
  rintro ⟨ρ, sa, F, st, R, p⟩
  simp only [ev] at p
  refine ⟨ρ, sa, F, st, R, (P.bind p).imp fun d st1 F1 H1 s1 p1 x hx => ?_⟩
  refine ⟨ρ, sa, F1, st1, s1.rep, (P.bind p1).imp fun e st2 F2 H2 s2 p2 y hy => ?_⟩
  obtain ⟨r, hr, _, q⟩ := P.of p2 s2.rep
  exact bin_ok op hr (hx.mono s2) hy s2.rep fun F' H' s v hv => q F' H' s v (.inl hv)
theorem T_cmp {op : COp} {a b : E} : T K G cl gl o (.cmp op a b) σ H Q → tOp (rCmp K op) (T K G cl gl true a) (T K G cl gl true b) σ H Q := by
  rintro ⟨ρ, sa, F, st, R, p⟩
  simp only [ev] at p
  refine ⟨ρ, sa, F, st, R, (P.bind p).imp fun d st1 F1 H1 s1 p1 x hx => ?_⟩
  refine ⟨ρ, sa, F1, st1, s1.rep, (P.bind p1).imp fun e st2 F2 H2 s2 p2 y hy => ?_⟩
  obtain ⟨r, hr, q, _⟩ := P.of p2 s2.rep
  cases z : cmpD op d e with
  | none => rw [z] at hr; cases hr
  | some k =>
    rw [z] at hr; cases hr
    exact cmp_ok op z (hx.mono s2) hy s2.rep (q _ (.inl (.bl _)))
theorem T_chain {op op' : COp} {a b c : E} : T K G cl gl o (.chain op op' a b c) σ H Q → tChain (rCmp K op) (rCmp K op') (T K G cl gl true a) (T K G cl gl true b) (T K G cl gl true c) σ H Q := by
  rintro ⟨ρ, sa, F, st, R, p⟩
  simp only [ev] at p
  refine ⟨ρ, sa, F, st, R, (P.bind p).imp fun d st1 F1 H1 s1 p1 x hx => ?_⟩
  refine ⟨ρ, sa, F1, st1, s1.rep, (P.bind p1).imp fun e st2 F2 H2 s2 p2 y hy => ?_⟩
  obtain ⟨k, hk, q, _⟩ := P.of (P.bind p2) s2.rep
  refine cmp_ok op hk (hx.mono s2) hy s2.rep ⟨k, rfl, ?_⟩
  cases k with
  | false =>
    simp only [Bool.false_eq_true, if_false] at q ⊢
    exact q.here s2.rep _ (.inl (.bl _))
  | true =>
    simp only [if_true] at q ⊢
    refine ⟨ρ, sa, F2, st2, s2.rep, (P.bind q).imp fun f st3 F3 H3 s3 p3 z hz => ?_⟩
    obtain ⟨r, hr, q, _⟩ := P.of p3 s3.rep
    cases w : cmpD op' e f with
    | none => rw [w] at hr; cases hr
    | some k =>
      rw [w] at hr; cases hr
      exact cmp_ok op' w (hy.mono s3) hz s3.rep (q _ (.inl (.bl _)))
theorem T_chain3 {op op' op'' : COp} {a b c d : E} : T K G cl gl o (.chain3 op op' op'' a b c d) σ H Q → tChain3 (rCmp K op) (rCmp K op') (rCmp K op'') (T K G cl gl true a) (T K G cl gl true b) (T K G cl gl true c) (T K G cl gl true d) σ H Q := by
  rintro ⟨ρ, sa, F, st, R, p⟩
  simp only [ev] at p
  refine ⟨ρ, sa, F, st, R, (P.bind p).imp fun d st1 F1 H1 s1 p1 x hx => ?_⟩
  refine ⟨ρ, sa, F1, st1, s1.rep, (P.bind p1).imp fun e st2 F2 H2 s2 p2 y hy => ?_⟩
  obtain ⟨k, hk, q, _⟩ := P.of (P.bind p2) s2.rep
  refine cmp_ok op hk (hx.mono s2) hy s2.rep ⟨k, rfl, ?_⟩
  cases k with
  | false =>
    simp only [Bool.false_eq_true, if_false] at q ⊢
    exact q.here s2.rep _ (.inl (.bl _))
  | true =>
    simp only [if_true] at q ⊢
    refine ⟨ρ, sa, F2, st2, s2.rep, (P.bind q).imp fun f st3 F3 H3 s3 p3 z hz => ?_⟩
    obtain ⟨k2, hk2, q2, _⟩ := P.of (P.bind p3) s3.rep
    refine cmp_ok op' hk2 (hy.mono s3) hz s3.rep ⟨k2, rfl, ?_⟩
    cases k2 with
    | false =>
      simp only [Bool.false_eq_true, if_false] at q2 ⊢
      exact q2.here s3.rep _ (.inl (.bl _))
    | true =>
      simp only [if_true] at q2 ⊢
      refine ⟨ρ, sa, F3, st3, s3.rep, (P.bind q2).imp fun f2 st4 F4 H4 s4 p4 z2 hz2 => ?_⟩
      obtain ⟨r, hr, q3, _⟩ := P.of p4 s4.rep
      cases w : cmpD op'' f f2 with
      | none => rw [w] at hr; cases hr
      | some k =>
        rw [w] at hr; cases hr
        exact cmp_ok op'' w (hz.mono s4) hz2 s4.rep (q3 _ (.inl (.bl _)))
theorem T_neg {a : E} : T K G cl gl o (.neg a) σ H Q → tUn (rU fun i => .int (-i)) (T K G cl gl false a) σ H Q := by
  rintro ⟨ρ, sa, F, st, R, p⟩
  simp only [ev] at p
  refine ⟨ρ, sa, F, st, R, (P.bind p).imp fun d st1 F1 H1 s1 p1 x hx => ?_⟩
  split at p1
  · exact ⟨_, hx.int, p1.here s1.rep _ (.inl (.int _))⟩
  · exact p1.elim
theorem T_not {a : E} : T K G cl gl o (.not a) σ H Q → tNotV (T K G cl gl false a) σ H Q := by
  rintro ⟨ρ, sa, F, st, R, p⟩
  simp only [ev] at p
  refine ⟨ρ, sa, F, st, R, (P.bind p).imp fun d st1 F1 H1 s1 p1 x hx => ?_⟩
  split at p1
  · exact ⟨_, hx.bool, p1.here s1.rep _ (.inl (.bl _))⟩
  · exact p1.elim
theorem T_and {a b : E} : T K G cl gl o (.and a b) σ H Q → tAndV (T K G cl gl false a) (T K G cl gl false b) σ H Q := by
  rintro ⟨ρ, sa, F, st, R, p⟩
  simp only [ev] at p
  refine ⟨ρ, sa, F, st, R, (P.bind p).imp fun d st1 F1 H1 s1 p1 x hx => ?_⟩
  split at p1
  · exact ⟨true, hx.bool, by rw [if_pos rfl]; exact ⟨ρ, sa, F1, st1, s1.rep, p1.imp fun _ _ _ _ _ q v hv => q v (.inl hv.rp)⟩⟩
  · exact ⟨false, hx.bool, by rw [if_neg Bool.false_ne_true]; exact p1.here s1.rep _ (.inl (.bl _))⟩
  · exact p1.elim
theorem T_or {a b : E} : T K G cl gl o (.or a b) σ H Q → tOrV (T K G cl gl false a) (T K G cl gl false b) σ H Q := by
  rintro ⟨ρ, sa, F, st, R, p⟩
  simp only [ev] at p
  refine ⟨ρ, sa, F, st, R, (P.bind p).imp fun d st1 F1 H1 s1 p1 x hx => ?_⟩
  split at p1
  · exact ⟨true, hx.bool, by rw [if_pos rfl]; exact p1.here s1.rep _ (.inl (.bl _))⟩
  · exact ⟨false, hx.bool, by rw [if_neg Bool.false_ne_true]; exact ⟨ρ, sa, F1, st1, s1.rep, p1.imp fun _ _ _ _ _ q v hv => q v (.inl hv.rp)⟩⟩
  · exact p1.elim
theorem T_isN {yes : Bool} {a : E} : T K G cl gl o (.isN yes a) σ H Q → (if yes then tIsN (T K G cl gl false a) else tNotN (T K G cl gl false a)) σ H Q := by
  rintro ⟨ρ, sa, F, st, R, p⟩
  simp only [ev] at p
  have main : ∀ k : Bool → Bool, (yes = true → k = id) → (yes = false → k = not) → T K G cl gl false a σ H fun x H1 => Q (.bl (k (decide (x = .non)))) H1 := fun k k1 k2 => by
    refine ⟨ρ, sa, F, st, R, (P.bind p).imp fun d st1 F1 H1 s1 p1 x hx => ?_⟩
    split at p1
    · rw [hx.none]
      have q := p1.here s1.rep _ (.inl (.bl _))
      cases yes with
      | true => rw [k1 rfl]; exact q
      | false => rw [k2 rfl]; exact q
    · rename_i hd
      have hne : x ≠ .non := fun z => by
        subst z
        have := hx.rp
        cases this
        exact hd rfl
      have q := p1.here s1.rep _ (.inl (.bl _))
      rw [decide_eq_false hne]
      cases yes with
      | true => rw [k1 rfl]; exact q
      | false => rw [k2 rfl]; exact q
  cases yes with
  | true => exact main id (fun _ => rfl) (fun z => nomatch z)
  | false => exact main not (fun z => nomatch z) (fun _ => rfl)
theorem T_tup {es : Es} : T K G cl gl o (.tup es) σ H Q → TupN.tTupN (TAs K G cl gl es) σ H Q := by
  rintro ⟨ρ, sa, F, st, R, p⟩
  simp only [ev] at p
  refine ⟨ρ, sa, F, st, R, (P.bind p).imp fun ds st1 F1 H1 s1 p1 xs hx => ?_⟩
  split at p1
  · rename_i hz
    exact ⟨by rw [hx.length]; exact hz, Ans.tup s1.rep (fun F' H' s v hv => p1 F' H' s v (.inl hv)) hx⟩
  · exact p1.elim
theorem T_lst {es : Es} : T K G cl gl o (.lst es) σ H Q → tLst (TAs K G cl gl es) σ H Q := by
  rintro ⟨ρ, sa, F, st, R, p⟩
  simp only [ev] at p
  refine ⟨ρ, sa, F, st, R, (P.bind p).imp fun ds st1 F1 H1 s1 p1 xs hx => ?_⟩
  split at p1
  · rename_i hz
    exact ⟨by rw [hx.length]; exact hz, fun q n => Ans.lst s1.rep (fun F' H' s v hv => p1 F' H' s v (.inl hv)) hx n⟩
  · exact p1.elim
theorem TAs_nil : TAs K G cl gl .nil σ H = tNil σ H ∨ True := .inr trivial
theorem T_nil {Q : List V → Hp → Prop} : TAs K G cl gl .nil σ H Q → tNil σ H Q := by
  rintro ⟨ρ, sa, F, st, R, p⟩
  simp only [evs] at p
  exact p.here R _ .nil
theorem T_cons {e : E} {es : Es} {Q : List V → Hp → Prop} : TAs K G cl gl (.cons e es) σ H Q → tCons (T K G cl gl false e) (TAs K G cl gl es) σ H Q := by
  rintro ⟨ρ, sa, F, st, R, p⟩
  simp only [evs] at p
  refine ⟨ρ, sa, F, st, R, (P.bind p).imp fun d st1 F1 H1 s1 p1 x hx => ?_⟩
  refine ⟨ρ, sa, F1, st1, s1.rep, (P.bind p1).imp fun ds st2 F2 H2 s2 p2 xs hxs => ?_⟩
  exact p2.here s2.rep _ (.cons (hx.mono s2).rp hxs)
theorem T_idx {a b : E} : T K G cl gl o (.idx a b) σ H Q → tOp (rIx K) (T K G cl gl true a) (T K G cl gl false b) σ H Q := by
  rintro ⟨ρ, sa, F, st, R, p⟩
  simp only [ev] at p
  refine ⟨ρ, sa, F, st, R, (P.bind p).imp fun d st1 F1 H1 s1 p1 x hx => ?_⟩
  refine ⟨ρ, sa, F1, st1, s1.rep, (P.bind p1).imp fun e st2 F2 H2 s2 p2 y hy => ?_⟩
  obtain ⟨r, hr, _, q⟩ := P.of p2 s2.rep
  exact idx_ok hr (hx.mono s2) hy s2.rep fun F' H' s v hv => q F' H' s v (.inl hv)
def TPart (K : PySem.W.Frag) (G : Gh) (cl : Calls) (gl : List D) (e : OE) : TO := fun σ H Q => ∃ ρ sa F st, Rep K G ρ sa σ F H st ∧ P K G ρ sa σ F H (evPart cl gl ρ e st) fun i _ F' H' => Q i H'
theorem T_noPart {Q : Option Int → Hp → Prop} : TPart K G cl gl .none σ H Q → tNoPart σ H Q := by
  rintro ⟨ρ, sa, F, st, R, p⟩
  simp only [evPart] at p
  exact p.here R
theorem T_part {e : E} {Q : Option Int → Hp → Prop} : TPart K G cl gl (.some e) σ H Q → tPart (T K G cl gl false e) σ H Q := by
  rintro ⟨ρ, sa, F, st, R, p⟩
  simp only [evPart] at p
  refine ⟨ρ, sa, F, st, R, (P.bind p).imp fun d st1 F1 H1 s1 p1 x hx => ?_⟩
  split at p1
  · exact ⟨_, hx.int, p1.here s1.rep⟩
  · exact p1.elim
theorem T_slice {a : E} {lo hi : OE} : T K G cl gl o (.slice a lo hi) σ H Q → tSl (rSl2 K) (T K G cl gl true a) (TPart K G cl gl lo) (TPart K G cl gl hi) σ H Q := by
  rintro ⟨ρ, sa, F, st, R, p⟩
  simp only [ev] at p
  refine ⟨ρ, sa, F, st, R, (P.bind p).imp fun d st1 F1 H1 s1 p1 x hx => ?_⟩
  refine ⟨ρ, sa, F1, st1, s1.rep, (P.bind p1).imp fun l st2 F2 H2 s2 p2 => ?_⟩
  refine ⟨ρ, sa, F2, st2, s2.rep, (P.bind p2).imp fun u st3 F3 H3 s3 p3 => ?_⟩
  obtain ⟨r, hr, _, q⟩ := P.of p3 s3.rep
  exact slice_ok hr ((hx.mono s2).mono s3) s3.rep fun F' H' s v hv => q F' H' s v (.inl hv)
theorem T_bi {b : Bi} {a : E} : T K G cl gl o (.bi b a) σ H Q → tCB (rBi K b) (tCons (T K G cl gl true a) tNil) σ H Q := by
  rintro ⟨ρ, sa, F, st, R, p⟩
  simp only [ev] at p
  refine ⟨ρ, sa, F, st, R, (P.bind p).imp fun d st1 F1 H1 s1 p1 x hx => ?_⟩
  obtain ⟨r, hr, _, q⟩ := P.of p1 s1.rep
  exact bi_ok b hr hx s1.rep fun F' H' s v hv => q F' H' s v (.inl hv)
theorem T_inst {a : E} {t : String} (ht : askTy t = true) : T K G cl gl o (.inst a t) σ H Q → tCB (rIsi K) (tCons (T K G cl gl true a) (tCons (tC (.ty t)) tNil)) σ H Q := by
  rintro ⟨ρ, sa, F, st, R, p⟩
  simp only [ev] at p
  refine ⟨ρ, sa, F, st, R, (P.bind p).imp fun d st1 F1 H1 s1 p1 x hx => ?_⟩
  split at p1
  · exact p1.elim
  · rename_i nd
    exact ⟨x, .ty t, _, .type t, _, rfl, .ty t, hx.tyX s1.rep nd, kit_d d t ht nd, p1.here s1.rep _ (.inl (.bl _))⟩
theorem T_mono' {e : E} {o : Bool} {σ : L2.St} {H : Hp} {Q Q' : VK} (h : T K G cl gl o e σ H Q) (f : ∀ v H', Q v H' → Q' v H') : T K G cl gl o e σ H Q' := by
  obtain ⟨ρ, sa, F, st, R, p⟩ := h
  exact ⟨ρ, sa, F, st, R, p.imp fun _ _ _ _ _ q v hv => f _ _ (q v hv)⟩
theorem T_din {yes : Bool} {k d : E} : T K G cl gl o (.din yes k d) σ H Q → (if yes then tDIn (T K G cl gl false k) (T K G cl gl true d) else tDNotIn (T K G cl gl false k) (T K G cl gl true d)) σ H Q := by
  rintro ⟨ρ, sa, F, st, R, p⟩
  simp only [ev] at p
  have main : T K G cl gl false k σ H fun y H1 => T K G cl gl true d σ H1 fun x H2 => ∃ a oo, x = .ref a ∧ DGet H2 a y oo ∧ Q (.bl (oo.isSome == yes)) H2 := by
    refine ⟨ρ, sa, F, st, R, (P.bind p).imp fun d st1 F1 H1 s1 p1 x hx => ?_⟩
    refine ⟨ρ, sa, F1, st1, s1.rep, (P.bind p1).imp fun e st2 F2 H2 s2 p2 y hy => ?_⟩
    obtain ⟨r, hr, q, _⟩ := P.of p2 s2.rep
    cases z : dinD d e with
    | none => rw [z] at hr; cases hr
    | some kk =>
      rw [z] at hr; cases hr
      obtain ⟨a, oo, h1, h2, h3⟩ := din_ok z (hx.mono s2) hy s2.rep
      exact ⟨a, oo, h1, h2, by rw [h3]; exact q _ (.inl (.bl _))⟩
  cases yes with
  | true =>
    refine T_mono' main fun y H1 h => T_mono' h fun x H2 ⟨a, oo, e1, e2, q⟩ => ⟨a, oo, e1, e2, ?_⟩
    rw [show (oo.isSome == true) = oo.isSome by cases oo.isSome <;> rfl] at q
    exact q
  | false =>
    refine T_mono' main fun y H1 h => T_mono' h fun x H2 ⟨a, oo, e1, e2, q⟩ => ⟨a, oo, e1, e2, ?_⟩
    rw [show (oo.isSome == false) = !oo.isSome by cases oo.isSome <;> rfl] at q
    exact q
theorem T_dget {d k : E} : T K G cl gl o (.dget d k) σ H Q → tDGet (T K G cl gl true d) (T K G cl gl false k) σ H Q := by
  rintro ⟨ρ, sa, F, st, R, p⟩
  simp only [ev] at p
  refine ⟨ρ, sa, F, st, R, (P.bind p).imp fun d st1 F1 H1 s1 p1 x hx => ?_⟩
  refine ⟨ρ, sa, F1, st1, s1.rep, (P.bind p1).imp fun e st2 F2 H2 s2 p2 y hy => ?_⟩
  obtain ⟨r, hr, _, q⟩ := P.of p2 s2.rep
  exact dget_ok hr (hx.mono s2) hy s2.rep fun F' H' s v hv => q F' H' s v (.inl hv)
theorem T_bits {a : E} : T K G cl gl o (.bits a) σ H Q → tBits (T K G cl gl false a) σ H Q := by
  rintro ⟨ρ, sa, F, st, R, p⟩
  simp only [ev] at p
  refine ⟨ρ, sa, F, st, R, (P.bind p).imp fun d st1 F1 H1 s1 p1 x hx => ?_⟩
  split at p1
  · exact ⟨_, hx.int, p1.here s1.rep _ (.inl (.int _))⟩
  · exact p1.elim
theorem T_two {mx : Bool} {a b : E} : T K G cl gl o (.two mx a b) σ H Q → tCB (fun xs H Q => ∃ i j, xs = [.int i, .int j] ∧ Q (.int (if mx then (if j > i then j else i) else (if j < i then j else i))) H) (tCons (T K G cl gl false a) (tCons (T K G cl gl false b) tNil)) σ H Q := by
  rintro ⟨ρ, sa, F, st, R, p⟩
  simp only [ev] at p
  refine ⟨ρ, sa, F, st, R, (P.bind p).imp fun d st1 F1 H1 s1 p1 x hx => ?_⟩
  refine ⟨ρ, sa, F1, st1, s1.rep, (P.bind p1).imp fun e st2 F2 H2 s2 p2 y hy => ?_⟩
  split at p2
  · refine ⟨_, _, ?_, p2.here s2.rep _ (.inl (.int _))⟩
    rw [hx.int, hy.int]
  · exact p2.elim

/-! ### calls -/
/-- arguments: lists that are being filled may be lent -/
def TArgs (K : PySem.W.Frag) (G : Gh) (cl : Calls) (gl : List D) (es : Es) : TA := fun σ H Q => ∃ ρ sa F st, Rep K G ρ sa σ F H st ∧ P K G ρ sa σ F H (evArgs cl gl ρ es st) fun p _ F' H' => ∀ vs, (Paired (fun v d => Rq K sa true F' H' v d) vs p.1) → (p.2 = false → RpA K sa F' vs p.1) → Q vs H'
theorem TA_nil {Q : List V → Hp → Prop} : TArgs K G cl gl .nil σ H Q → tNil σ H Q := by
  rintro ⟨ρ, sa, F, st, R, p⟩
  simp only [evArgs] at p
  exact p.here R _ .nil (fun _ => .nil)
theorem TA_cons {e : E} {es : Es} {Q : List V → Hp → Prop} (hb : isBor e = false) : TArgs K G cl gl (.cons e es) σ H Q → tCons (T K G cl gl false e) (TArgs K G cl gl es) σ H Q := by
  rintro ⟨ρ, sa, F, st, R, p⟩
  simp only [evArgs, hb] at p
  refine ⟨ρ, sa, F, st, R, (P.bind p).imp fun d st1 F1 H1 s1 p1 x hx => ?_⟩
  refine ⟨ρ, sa, F1, st1, s1.rep, (P.bind p1).imp fun pr st2 F2 H2 s2 p2 xs hxs hxs' => ?_⟩
  refine p2.here s2.rep _ (.cons (.inl (hx.mono s2).rp) hxs) fun z => ?_
  simp only [Bool.or_eq_false_iff] at z
  exact .cons (hx.mono s2).rp (hxs' z.2)
theorem TA_bor {i : Nat} {es : Es} {Q : List V → Hp → Prop} : TArgs K G cl gl (.cons (.bor i) es) σ H Q → tCons (tVar i) (TArgs K G cl gl es) σ H Q := by
  rintro ⟨ρ, sa, F, st, R, p⟩
  simp only [evArgs, isBor, ev] at p
  cases q : ρ[i]? with
  | none => simp [q] at p; exact p.elim
  | some s =>
    cases s with
    | emp => simp [q] at p; exact p.elim
    | val d =>
      obtain ⟨x, h1, h2⟩ := R.slots i _ q
      simp only [q, Eng.R.bind_ok] at p
      refine ⟨x, h1, ρ, sa, F, st, R, (P.bind p).imp fun pr st2 F2 H2 s2 p2 xs hxs hxs' => ?_⟩
      refine p2.here s2.rep _ (.cons (.inl (h2.mono s2.sub)) hxs) fun z => ?_
      simp only [Bool.or_eq_false_iff] at z
      exact .cons (h2.mono s2.sub) (hxs' z.2)
    | lst ds =>
      obtain ⟨a, xs0, h1, h2, h3⟩ := R.slots i _ q
      simp only [q, Eng.R.bind_ok, if_true] at p
      refine ⟨_, h1, ρ, sa, F, st, R, (P.bind p).imp fun pr st2 F2 H2 s2 p2 xs hxs hxs' => ?_⟩
      have hx : Rq K sa true F H (.ref a) (.list ds) := .inr ⟨rfl, a, rfl, (R.own i a ⟨.inl ⟨ds, q⟩, h1⟩).2.2, .inl ⟨xs0, ds, rfl, h2, h3⟩⟩
      refine p2.here s2.rep _ (.cons (hx.mono s2) hxs) fun z => ?_
      simp [ownB, q] at z
    | dic ds =>
      obtain ⟨a, xs0, h1, h2, h3⟩ := R.slots i _ q
      simp only [q, Eng.R.bind_ok, if_true] at p
      refine ⟨_, h1, ρ, sa, F, st, R, (P.bind p).imp fun pr st2 F2 H2 s2 p2 xs hxs hxs' => ?_⟩
      have hx : Rq K sa true F H (.ref a) (dictD ds) := .inr ⟨rfl, a, rfl, (R.own i a ⟨.inr ⟨ds, q⟩, h1⟩).2.2, .inr ⟨xs0, ds, rfl, h2, h3⟩⟩
      refine p2.here s2.rep _ (.cons (hx.mono s2) hxs) fun z => ?_
      simp [ownB, q] at z
/-- all that stands in the heap but the state object -/
noncomputable def lend (sa : SA) (H : Hp) : Hp := fun b => @ite _ (exA sa b) (Classical.propDecidable _) none (H b)
theorem lend_in {sa : SA} {b : Addr} (h : ¬ exA sa b) : lend sa H b = H b := by unfold lend; rw [if_neg h]
theorem lend_ex {sa : SA} {b : Addr} (h : exA sa b) : lend sa H b = none := by unfold lend; rw [if_pos h]
theorem lend_sub {sa : SA} : Sub (lend sa H) H := fun b u e => by
  by_cases h : exA sa b
  · rw [lend_ex h] at e; cases e
  · rw [lend_in h] at e; exact e
theorem Rep.lend {ρ : Env} {sa : SA} {F : Hp} {st : Sta} (R : Rep K G ρ sa σ F H st) : Sub F (Eng.lend sa H) := fun b u e => by
  have nx : ¬ exA sa b := fun z => by rw [(R.sta.at z).1] at e; cases e
  rw [lend_in nx]; exact R.sub _ _ e
theorem Rq.lend {ρ : Env} {sa : SA} {F : Hp} {st : Sta} {v : V} {d : D} (R : Rep K G ρ sa σ F H st) (h : Rq K sa true F H v d) : Rp K sa (Eng.lend sa H) v d := by
  rcases h with h | ⟨_, a, e, nex, ⟨xs, ds, e1, e2, e3⟩ | ⟨xs, ds, e1, e2, e3⟩⟩
  · exact h.mono R.lend
  · subst e e1; exact .lst (by rw [lend_in nex]; exact e2) (e3.mono R.lend)
  · subst e e1; exact .dic (by rw [lend_in nex]; exact e2) (e3.mono R.lend)
theorem Paired.lend {ρ : Env} {sa : SA} {F : Hp} {st : Sta} (R : Rep K G ρ sa σ F H st) : ∀ {vs : List V} {ds : List D}, Paired (fun v d => Rq K sa true F H v d) vs ds → RpA K sa (Eng.lend sa H) vs ds
  | _, _, .nil => .nil
  | _, _, .cons h r => .cons (h.lend R) (Paired.lend R r)
/-- behind a call: the caller's ground -/
theorem Rep.called {ρ : Env} {sa : SA} {F F' H' : Hp} {st st' : Sta} (R : Rep K G ρ sa σ F H st) (s : CStp sa F H F' H' st') : Stp K G ρ sa σ F H F' H' st' := by
  refine ⟨⟨s.sub', fun i sl e => ?_, R.len, R.dis, fun i a h => ?_, s.sta, fun b u hb e => s.keep b u hb (R.base b u hb e), fun b z => ?_, R.sub0.trans s.sub, R.sa0, R.saf⟩, s.sub, s.keep, s.new⟩
  · have q := R.slots i sl e
    cases sl with
    | emp => trivial
    | val d => obtain ⟨x, h1, h2⟩ := q; exact ⟨x, h1, h2.mono s.sub⟩
    | lst ds =>
      obtain ⟨a, xs, h1, h2, h3⟩ := q
      exact ⟨a, xs, h1, s.keep _ _ (R.own i a ⟨.inl ⟨ds, e⟩, h1⟩).2.2 h2, h3.mono s.sub⟩
    | dic ds =>
      obtain ⟨a, xs, h1, h2, h3⟩ := q
      exact ⟨a, xs, h1, s.keep _ _ (R.own i a ⟨.inr ⟨ds, e⟩, h1⟩).2.2 h2, h3.mono s.sub⟩
  · obtain ⟨h1, h2, h3⟩ := R.own i a h
    refine ⟨?_, h2, h3⟩
    cases q : F' a with
    | none => rfl
    | some u =>
      obtain ⟨w, hw, nt⟩ := R.ownAtL h
      rcases s.new a (by rw [q]; exact fun z => nomatch z) with z | z | ⟨ys, z, tz⟩
      · exact (z h1).elim
      · rw [hw] at z; cases z
      · have e1 := s.keep _ _ h3 hw
        rw [s.sub' _ _ z] at e1
        cases e1
        rw [nt] at tz; cases tz
  · rcases s.new b z with w | w | w
    · rcases R.new b w with w | w | ⟨xs, w, tw⟩
      · exact .inl w
      · exact .inr (.inl w)
      · exact .inr (.inr ⟨xs, s.sub _ _ w, tw⟩)
    · refine .inr (.inl ?_)
      cases q : G.H0 b with
      | none => rfl
      | some u =>
        by_cases hb : exA sa b
        · obtain ⟨_, u', e⟩ := R.sta.at hb
          rw [w] at e; cases e
        · rw [R.base b u hb q] at w; cases w
    · exact .inr (.inr w)
def mergeT (F1 F' : Hp) : Hp := fun b => match F1 b with
  | some u => some u
  | none => match F' b with
    | some u => if tpO u = true then some u else none
    | none => none
theorem T_call {f n : Nat} {es : Es} (hl : ∀ ds st, cl f ds st ≠ .bad → ds.length = n) : T K G cl gl o (.call f es) σ H Q → tCall (spF K G.sa.tb G.xa cl f n) [] G.E (TArgs K G cl gl es) σ H Q := by
  rintro ⟨ρ, sa, F, st, R, p⟩
  simp only [ev] at p
  refine ⟨ρ, sa, F, st, R, (P.bind p).imp fun pr st1 F1 H1 s1 p1 vs hv hv' => ?_⟩
  show spF K G.sa.tb G.xa cl f n (vs ++ []) H1 Q G.E
  rw [List.append_nil]
  have Rr := s1.rep
  have key : ∀ Fx, Sub Fx H1 → Sub F1 Fx → StaOk sa st1 Fx H1 → RpA K sa Fx vs pr.1 → (∀ F' H' st', CStp sa Fx H1 F' H' st' → ∃ F2, CStp sa F1 H1 F2 H' st' ∧ ∀ v d, (pr.2 && !noLD d) = false → Rp K sa F' v d → Rp K sa F2 v d) →
      spF K G.sa.tb G.xa cl f n vs H1 Q G.E := fun Fx h1 h2 h3 h4 h5 => by
    have hn : vs.length = n := by
      rw [h4.length]
      refine hl pr.1 st1 fun z => ?_
      rw [z] at p1; exact p1
    refine ⟨hn, sa, Fx, st1, pr.1, Rr.tbq, h1, h3, h4, ?_⟩
    cases z : cl f pr.1 st1 with
    | bad => rw [z] at p1; exact p1
    | exc e st' =>
      rw [z] at p1
      intro F' H' cls dx s q
      obtain ⟨F2, s2, _⟩ := h5 F' H' st' s
      exact p1 F2 H' (Rr.called s2) cls dx q
    | ok d st' =>
      rw [z] at p1
      simp only [Eng.R.bind_ok] at p1
      split at p1
      · exact p1.elim
      · rename_i hz
        intro F' H' v s r
        obtain ⟨F2, s2, g⟩ := h5 F' H' st' s
        exact p1 F2 H' (Rr.called s2) v (.inl (g v d (by simpa using hz) r))
  cases hp : pr.2 with
  | false => exact key F1 Rr.sub Sub.refl Rr.sta (hv' hp) (fun F' H' st' s => ⟨F', s, fun v d _ r => r⟩)
  | true =>
    refine key (Eng.lend sa H1) lend_sub Rr.lend (Rr.sta.keep (fun b e => (lend_ex e).trans (Rr.sta.at e).1.symm) fun _ _ => rfl) (Paired.lend Rr hv) (fun F' H' st' s => ?_)
    refine ⟨mergeT F1 F', ⟨fun b u e => ?_, fun b u e => by simp only [mergeT, e], s.keep, fun b z => ?_, s.sta.keep (fun b e => ?_) fun _ _ => rfl⟩, fun v d hd r => Rp.noLD (fun b xs te e => ?_) r (by rw [hp] at hd; simpa using hd)⟩
    · cases q : F1 b with
      | some u' =>
        simp only [mergeT, q] at e
        cases e
        have nx : ¬ exA sa b := fun z => by rw [(Rr.sta.at z).1] at q; cases q
        exact s.keep b u nx (Rr.sub _ _ q)
      | none =>
        simp only [mergeT, q] at e
        split at e
        · rename_i xs q2
          split at e
          · cases e
            exact s.sub' _ _ q2
          · cases e
        · cases e
    · cases q : F1 b with
      | some u' => exact .inl (fun z => nomatch z)
      | none =>
        simp only [mergeT, q] at z
        split at z
        · rename_i xs q2
          split at z
          · rename_i tz
            exact .inr (.inr ⟨xs, by simp only [mergeT, q, q2, tz, if_true], tz⟩)
          · exact (z rfl).elim
        · exact (z rfl).elim
    · have h1 := (Rr.sta.at e).1
      have h2 := (s.sta.at e).1
      simp only [mergeT, h1, h2]
    · cases q : F1 b with
      | some u' =>
        simp only [mergeT, q]
        have h1 := Rr.lend _ _ q
        rw [s.sub _ _ h1] at e
        exact e
      | none => simp only [mergeT, q, e, te, if_true]
end
end Eng

end
section
set_option Elab.async false
set_option linter.all false
set_option maxRecDepth 100000
set_option maxHeartbeats 4000000
set_option autoImplicit false
/-! Eng, part G: the reading of a comprehension; tests; what is walked. -/
namespace Eng
open PySem PySem.Spec PyProof.Rows L2
section
variable {K : PySem.W.Frag} {G G' : Gh} {cl : Calls} {gl : List D} {σ : L2.St} {H : Hp} {o : Bool}
/-- a clause's test -/
def TIf (K : PySem.W.Frag) (G : Gh) (cl : Calls) (gl : List D) (c : OE) : TT := fun σ H Q => ∃ ρ sa F st, Rep K G ρ sa σ F H st ∧ P K G ρ sa σ F H (evIf cl gl ρ c st) fun b _ F' H' => Q b H'
theorem TIf_none {Q : Bool → Hp → Prop} : TIf K G cl gl .none σ H Q → tYes σ H Q := by
  rintro ⟨ρ, sa, F, st, R, p⟩
  simp only [evIf] at p
  exact p.here R
theorem TIf_some {e : E} {Q : Bool → Hp → Prop} : TIf K G cl gl (.some e) σ H Q → TTe K G cl gl e σ H Q := by
  rintro ⟨ρ, sa, F, st, R, p⟩
  simp only [evIf] at p
  refine ⟨ρ, sa, F, st, R, (P.bind p).imp fun d st1 F1 H1 s1 p1 => ?_⟩
  split at p1
  · exact ⟨_, rfl, p1.here s1.rep⟩
  · exact p1.elim
theorem Apart.gh {ρ : Env} {sa : SA} {p : Addr} (e : GEq G G') (a : Apart G ρ sa σ p) : Apart G' ρ sa σ p := ⟨by rw [e.h]; exact a.h0, a.ex, a.ow⟩
/-- an object that is laid aside stays aside -/
theorem Stp.aside {ρ : Env} {sa : SA} {F F' H' : Hp} {st' : Sta} {p : Addr} {xs : List V} (s : Stp K G ρ sa σ F H F' H' st') (nF : F p = none) (h : H p = some (.lst xs)) (nex : ¬ exA sa p) : F' p = none ∧ H' p = some (.lst xs) := by
  have hk := s.keep _ _ nex h
  refine ⟨?_, hk⟩
  cases q : F' p with
  | none => rfl
  | some u =>
    rcases s.new p (by rw [q]; exact fun z => nomatch z) with z | z | ⟨ys, z, tz⟩
    · exact (z nF).elim
    · rw [h] at z; cases z
    · rw [s.rep.sub _ _ z] at hk; cases hk; cases tz
theorem comp_core {own : List (Str × Nat)} {tg : Tg} {it : It} {c : OE} {e : E} {Q : VK} (ge : GEq G G') (hv : tgOk (own.map (·.2)) it tg = true) {ρ : Env} {sa : SA} {F : Hp} {st : Sta} {Ok : D → Sta → Hp → Hp → Prop} (R : Rep K G ρ sa σ F H st)
    (p : P K G ρ sa σ F H (ev cl gl ρ o (.comp own tg it c e) st) Ok)
    (fin : ∀ F1 H1 acc sti Fi Hi L accV, H1 L = none → Stp K G ρ sa σ F1 H1 Fi Hi sti → Fi L = none → Hi L = some (.lst accV) → Apart G ρ sa σ L → RpA K sa Fi accV acc → (∀ F' H', Stp K G ρ sa σ F1 H1 F' H' sti → Ok (.list acc) sti F' H') → Q (.ref L) Hi) :
    tLc (TIt K G cl gl true it) (gOf K tg) (TIf K G' cl gl c) (T K G' cl gl false e) (own.map (·.2)) σ H Q := by
  simp only [ev] at p
  generalize own.map (·.2) = vs at p hv ⊢
  refine ⟨ρ, sa, F, st, R, (P.bind p).imp fun ds st1 F1 H1 s1 p1 J hJ => ?_⟩
  intro D hD
  have R1 := s1.rep.gh ge
  have p3 := P.bind (P.noExc ge p1)
  obtain ⟨ap, nF⟩ := R1.apart hD
  generalize hT : (fun x st => match bindTg tg x (wipeE ρ vs) with
      | some ρ' => (evIf cl gl ρ' c st).bind fun b st => if b = true then (ev cl gl ρ' false e st).bind fun d st => .ok (some d) st else .ok none st
      | none => (.bad : Eng.R (Option PyData))) = turn at p3
  have s0 : Stp K G' ρ sa σ F1 H1 F1 (upd H1 D (.lst [])) st1 := ⟨R1.put ap nF, Sub.refl, fun b u _ h => by rw [upd_ne (ne_of_none h hD)]; exact h, fun b h => .inl h⟩
  let W : Nat → Hp → Prop := fun i Hh => i ≤ ds.length ∧ ∃ Fi sti accV acc, Stp K G' ρ sa σ F1 H1 Fi Hh sti ∧ Fi D = none ∧ Hh D = some (.lst accV) ∧ RpA K sa Fi accV acc ∧
    P K G' ρ sa σ F1 H1 (compRun turn (ds.drop i) acc sti) fun a st F H => P K G' ρ sa σ F H (.ok (.list a) st) Ok
  refine ⟨fun i m Hh => m = ds.length - i ∧ W i Hh, ⟨ds.length, rfl, Nat.zero_le _, F1, st1, [], [], s0, nF, upd_same, .nil, p3⟩, ?_⟩
  rintro i m Hi ⟨rfl, hi, Fi, sti, accV, acc, si, nFi, hDi, ra, pi⟩
  have jj := hJ Fi Hi si.sub si.rep.sub (fun _ b u hb hu => si.keep b u hb hu) i
  by_cases hlt : i < ds.length
  · have hget : ds[i]? = some ds[i] := List.getElem?_eq_getElem hlt
    refine .inr ⟨(jj.1 _ hget).1, W (i + 1), fun H' w => ⟨ds.length - (i + 1), by omega, rfl, w⟩, fun x H' hy => ?_⟩
    rw [List.drop_eq_getElem_cons hlt] at pi
    simp only [compRun] at pi
    obtain ⟨F2, s2, hx⟩ : ∃ F2, Stp K G' ρ sa σ Fi Hi F2 H' sti ∧ (Rp K sa F2 x ds[i] ∨ (nameTg tg = false ∧ Wk K sa F2 x ds[i])) := by
      rcases (jj.1 _ hget).2 x H' hy with ⟨rfl, r⟩ | ⟨p, u, np, rfl, wk, r⟩
      · exact ⟨Fi, Stp.refl si.rep, .inl r⟩
      · exact ⟨_, Stp.alloc si.rep np, .inr ⟨tgOk_wk hv wk, r⟩⟩
    obtain ⟨nF2, hD2⟩ := s2.aside nFi hDi ap.ex
    have pt := P.rebase (si.trans s2) (P.self (P.bind pi))
    rw [← hT] at pt
    cases hb : bindTg tg ds[i] (wipeE ρ vs) with
    | none => simp only [hb] at pt; exact pt.elim
    | some ρ' =>
      simp only [hb] at pt
      refine g_ok tg hb (s2.rep.wipe vs) hx (tgOk_in hv) fun σ2 R2 so => ⟨wipe_same so, ?_⟩
      have pc : P K G' ρ' sa σ2 F2 H' (evIf cl gl ρ' c sti) _ := P.carry s2.rep (P.self (P.bind pt))
      refine ⟨ρ', sa, F2, sti, R2, pc.imp fun b st3 F3 H3 s3 ⟨hIf, px⟩ => ?_⟩
      have s3' := s2.rep.carry s3
      obtain ⟨nF3, hD3⟩ := s3'.aside nF2 hD2 ap.ex
      cases b with
      | true =>
        simp only [if_true] at px ⊢
        have pe : P K G' ρ' sa σ2 F3 H3 (ev cl gl ρ' false e st3) _ := P.carry s3'.rep (P.self (P.bind px))
        refine ⟨ρ', sa, F3, st3, s3.rep, pe.imp fun d st4 F4 H4 s4 ⟨hE, pz⟩ y hy => ?_⟩
        have s4' := s3'.rep.carry s4
        obtain ⟨nF4, hD4⟩ := s4'.aside nF3 hD3 ap.ex
        have ht : turn ds[i] sti = .ok (some d) st4 := by rw [← hT]; simp only [hb, hIf, Eng.R.bind_ok, if_true, hE]
        rw [ht] at pi
        simp only [Eng.R.bind_ok] at pi
        split at pi
        · rename_i hz
          have sT := si.trans (s2.trans (s3'.trans s4'))
          have sub4 : Sub Fi F4 := s2.sub.trans (s3'.sub.trans s4'.sub)
          refine ⟨accV, hD4, by rw [ra.length]; exact hz, by omega, F4, st4, accV ++ [y], acc ++ [d], ⟨sT.rep.put ap nF4, sT.sub, fun b u hb h => ?_, sT.new⟩, nF4, upd_same, (ra.mono sub4).append (.cons hy.rp .nil), pi⟩
          rw [upd_ne (ne_of_none h hD)]
          exact sT.keep b u hb h
        · exact pi.elim
      | false =>
        simp only [Bool.false_eq_true, if_false] at px ⊢
        have ht : turn ds[i] sti = .ok none st3 := by rw [← hT]; simp only [hb, hIf, Eng.R.bind_ok, Bool.false_eq_true, if_false]
        rw [ht] at pi
        simp only [Eng.R.bind_ok] at pi
        have sT := si.trans (s2.trans s3')
        exact ⟨by omega, F3, st3, accV, acc, sT, nF3, hD3, ra.mono (s2.sub.trans s3'.sub), pi⟩
  · have e : i = ds.length := by omega
    subst e
    refine .inl ⟨jj.2 (Nat.le_refl _), ?_⟩
    rw [List.drop_length] at pi
    simp only [compRun] at pi
    exact fin F1 H1 acc sti Fi Hi D accV hD (si.gh ge.symm) nFi hDi (ap.gh ge.symm) ra fun F' H' s => (pi F' H' (s.gh ge)).here (s.gh ge).rep

theorem T_comp {own : List (Str × Nat)} {tg : Tg} {it : It} {c : OE} {e : E} {Q : VK} (ge : GEq G G') (hv : tgOk (own.map (·.2)) it tg = true) :
    T K G cl gl o (.comp own tg it c e) σ H Q → tLc (TIt K G cl gl true it) (gOf K tg) (TIf K G' cl gl c) (T K G' cl gl false e) (own.map (·.2)) σ H Q := by
  rintro ⟨ρ, sa, F, st, R, p⟩
  refine comp_core ge hv R p fun F1 H1 acc sti Fi Hi L accV hn s nF hL ap ra q => ?_
  have sF : Sub Fi (upd Fi L (.lst accV)) := Sub.upd nF
  refine q (upd Fi L (.lst accV)) Hi ⟨s.rep.freeze ap nF hL, s.sub.trans sF, s.keep, fun b h => ?_⟩ _ (.inl (.lst upd_same (ra.mono sF)))
  by_cases hb : b = L
  · subst hb; exact .inr (.inl hn)
  · rw [upd_ne hb] at h ⊢; exact s.new b h

/-! ### tests -/
theorem TTe_of {e : E} {Q : Bool → Hp → Prop} : TTe K G cl gl e σ H Q → tB (T K G cl gl false e) σ H Q := by
  rintro ⟨ρ, sa, F, st, R, p⟩
  exact ⟨ρ, sa, F, st, R, p.imp fun d st1 F1 H1 s1 ⟨b, hb, q⟩ v hv => by subst hb; exact ⟨b, hv.bool, q⟩⟩
theorem TT_and {a b : E} {Q : Bool → Hp → Prop} : TTe K G cl gl (.and a b) σ H Q → tAnd (TTe K G cl gl a) (TTe K G cl gl b) σ H Q := by
  rintro ⟨ρ, sa, F, st, R, p⟩
  simp only [ev] at p
  refine ⟨ρ, sa, F, st, R, (P.bind p).imp fun d st1 F1 H1 s1 p1 => ?_⟩
  split at p1
  · exact ⟨true, rfl, iteT ⟨ρ, sa, F1, st1, s1.rep, p1⟩⟩
  · refine ⟨false, rfl, ?_⟩
    obtain ⟨b, hb, q⟩ := p1.here s1.rep
    cases hb; exact iteF q
  · exact p1.elim
theorem TT_or {a b : E} {Q : Bool → Hp → Prop} : TTe K G cl gl (.or a b) σ H Q → tOr (TTe K G cl gl a) (TTe K G cl gl b) σ H Q := by
  rintro ⟨ρ, sa, F, st, R, p⟩
  simp only [ev] at p
  refine ⟨ρ, sa, F, st, R, (P.bind p).imp fun d st1 F1 H1 s1 p1 => ?_⟩
  split at p1
  · refine ⟨true, rfl, ?_⟩
    obtain ⟨b, hb, q⟩ := p1.here s1.rep
    cases hb; exact iteT q
  · exact ⟨false, rfl, iteF ⟨ρ, sa, F1, st1, s1.rep, p1⟩⟩
  · exact p1.elim
theorem TT_not {a : E} {Q : Bool → Hp → Prop} : TTe K G cl gl (.not a) σ H Q → tNot (TTe K G cl gl a) σ H Q := by
  rintro ⟨ρ, sa, F, st, R, p⟩
  simp only [ev] at p
  refine ⟨ρ, sa, F, st, R, (P.bind p).imp fun d st1 F1 H1 s1 p1 => ?_⟩
  split at p1
  · rename_i c
    obtain ⟨b, hb, q⟩ := p1.here s1.rep
    cases hb
    exact ⟨c, rfl, q⟩
  · exact p1.elim
theorem full_tru {x : V} {d : D} {F H : Hp} {sa : SA} (s : Sub F H) (hx : Rq K sa true F H x d) {b : Bool} (h : (∃ xs, d = .list xs ∧ b = xs.isEmpty) ∨ ∃ xs, d = .tuple xs ∧ b = xs.isEmpty) : TruV K x H (!b) := by
  have key : ∀ {α β : Type} {xs : List α} {ys : List β}, xs.length = ys.length → (!ys.isEmpty) = !xs.isEmpty := fun {α β xs ys} e => by
    cases xs <;> cases ys <;> first | rfl | simp at e
  rcases h with ⟨xs, rfl, rfl⟩ | ⟨xs, rfl, rfl⟩
  · obtain ⟨a, vs, rfl, h2, h3⟩ := hx.list s
    exact .inl ⟨vs, .inl (.inl h2), key h3.length⟩
  · obtain ⟨a, vs, rfl, h2, h3⟩ := hx.tuple s
    exact .inr (.inl ⟨vs, h2, key h3.length⟩)
theorem TT_full {a : E} {Q : Bool → Hp → Prop} : TTe K G cl gl (.emp false a) σ H Q → (fun σ H Q => T K G cl gl true a σ H fun x H' => ∃ k, TruV K x H' k ∧ Q k H') σ H Q := by
  rintro ⟨ρ, sa, F, st, R, p⟩
  simp only [ev] at p
  refine ⟨ρ, sa, F, st, R, (P.bind p).imp fun d st1 F1 H1 s1 p1 x hx => ?_⟩
  split at p1
  · obtain ⟨b, hb, q⟩ := p1.here s1.rep
    cases hb
    refine ⟨_, full_tru s1.rep.sub hx (.inl ⟨_, rfl, rfl⟩), ?_⟩
    rename_i xs
    cases h : xs.isEmpty <;> rw [h] at q <;> exact q
  · obtain ⟨b, hb, q⟩ := p1.here s1.rep
    cases hb
    refine ⟨_, full_tru s1.rep.sub hx (.inr ⟨_, rfl, rfl⟩), ?_⟩
    rename_i xs
    cases h : xs.isEmpty <;> rw [h] at q <;> exact q
  · exact p1.elim
theorem TT_emp {a : E} {Q : Bool → Hp → Prop} : TTe K G cl gl (.emp true a) σ H Q → tNot (fun σ H Q => T K G cl gl true a σ H fun x H' => ∃ k, TruV K x H' k ∧ Q k H') σ H Q := by
  rintro ⟨ρ, sa, F, st, R, p⟩
  simp only [ev] at p
  refine ⟨ρ, sa, F, st, R, (P.bind p).imp fun d st1 F1 H1 s1 p1 x hx => ?_⟩
  split at p1
  · obtain ⟨b, hb, q⟩ := p1.here s1.rep
    cases hb
    refine ⟨_, full_tru s1.rep.sub hx (.inl ⟨_, rfl, rfl⟩), ?_⟩
    rename_i xs
    show Q (!!xs.isEmpty) H1
    cases h : xs.isEmpty <;> rw [h] at q <;> exact q
  · obtain ⟨b, hb, q⟩ := p1.here s1.rep
    cases hb
    refine ⟨_, full_tru s1.rep.sub hx (.inr ⟨_, rfl, rfl⟩), ?_⟩
    rename_i xs
    show Q (!!xs.isEmpty) H1
    cases h : xs.isEmpty <;> rw [h] at q <;> exact q
  · exact p1.elim
theorem T_ite {c a b : E} {Q : VK} : T K G cl gl o (.ite c a b) σ H Q → tIf (TTe K G cl gl c) (T K G cl gl false a) (T K G cl gl false b) σ H Q := by
  rintro ⟨ρ, sa, F, st, R, p⟩
  simp only [ev] at p
  refine ⟨ρ, sa, F, st, R, (P.bind p).imp fun d st1 F1 H1 s1 p1 => ?_⟩
  split at p1
  · exact ⟨true, rfl, iteT ⟨ρ, sa, F1, st1, s1.rep, p1.imp fun _ _ _ _ _ q v hv => q v (.inl hv.rp)⟩⟩
  · exact ⟨false, rfl, iteF ⟨ρ, sa, F1, st1, s1.rep, p1.imp fun _ _ _ _ _ q v hv => q v (.inl hv.rp)⟩⟩
  · exact p1.elim

/-! ### what is walked -/
variable {Q : L2.It → Hp → Prop}
theorem I_seq {e : E} : TIt K G cl gl o (.seq e) σ H Q → T K G cl gl o e σ H fun x H1 => (∃ a, x = .ref a ∧ (∃ xs, SqL K H1 a xs) ∧ Q (Itl K a) H1) ∨ (∃ a, x = .ref a ∧ (∃ xs, SqT K H1 a xs) ∧ Q (Itt K a) H1) := by
  rintro ⟨ρ, sa, F, st, R, p⟩
  simp only [evIt] at p
  refine ⟨ρ, sa, F, st, R, (P.bind p).imp fun d st1 F1 H1 s1 p1 x hx => ?_⟩
  obtain ⟨r, hr, q, _⟩ := P.of p1 s1.rep
  unfold seqD at hr
  split at hr
  · cases hr
    obtain ⟨a, xs, h1, h2, h3, h4⟩ := hx.stand s1.rep
    exact .inl ⟨a, h1, ⟨xs, .inl (.inl h2)⟩, q _ (jok_list h4 h3)⟩
  · cases hr
    have hx' := hx.tupRp
    cases hx' with
    | tup h r => exact .inr ⟨_, rfl, ⟨_, .inl (.inr ⟨_, s1.rep.sub _ _ h⟩)⟩, q _ (jok_tup (.inl (.inr ⟨_, h⟩)) r)⟩
    | tupK h r => exact .inr ⟨_, rfl, ⟨_, Sub.nil.sqT h.1⟩, q _ (jok_tup (Sub.nil.sqT h.1) r)⟩
  · cases hr
theorem small_of {i : Int} (h : smallI i = true) : -(2 ^ 62) ≤ i ∧ i < 2 ^ 62 := of_decide_eq_true h
theorem I_rng1 {a : E} : TIt K G cl gl o (.rng1 a) σ H Q → iRng1 (tCons (T K G cl gl false a) tNil) σ H Q := by
  rintro ⟨ρ, sa, F, st, R, p⟩
  simp only [evIt] at p
  refine ⟨ρ, sa, F, st, R, (P.bind p).imp fun d st1 F1 H1 s1 p1 x hx => ?_⟩
  split at p1
  · split at p1
    · rename_i hs
      obtain ⟨h1, h2⟩ := small_of hs
      exact ⟨_, by rw [hx.int], h1, h2, p1.here s1.rep _ jok_rng⟩
    · exact p1.elim
  · exact p1.elim
theorem I_rng2 {a b : E} : TIt K G cl gl o (.rng2 a b) σ H Q → iRng2 (tCons (T K G cl gl false a) (tCons (T K G cl gl false b) tNil)) σ H Q := by
  rintro ⟨ρ, sa, F, st, R, p⟩
  simp only [evIt] at p
  refine ⟨ρ, sa, F, st, R, (P.bind p).imp fun d st1 F1 H1 s1 p1 x hx => ?_⟩
  refine ⟨ρ, sa, F1, st1, s1.rep, (P.bind p1).imp fun e st2 F2 H2 s2 p2 y hy => ?_⟩
  split at p2
  · split at p2
    · rename_i hs
      rw [Bool.and_eq_true] at hs
      obtain ⟨h1, h2⟩ := small_of hs.1
      obtain ⟨h3, h4⟩ := small_of hs.2
      exact ⟨_, _, by rw [hx.int, hy.int], ⟨h1, h2, h3, h4⟩, p2.here s2.rep _ jok_rng⟩
    · exact p2.elim
  · exact p2.elim
theorem I_rng3 {a b c : E} : TIt K G cl gl o (.rng3 a b c) σ H Q → iRng3 (tCons (T K G cl gl false a) (tCons (T K G cl gl false b) (tCons (T K G cl gl false c) tNil))) σ H Q := by
  rintro ⟨ρ, sa, F, st, R, p⟩
  simp only [evIt] at p
  refine ⟨ρ, sa, F, st, R, (P.bind p).imp fun d st1 F1 H1 s1 p1 x hx => ?_⟩
  refine ⟨ρ, sa, F1, st1, s1.rep, (P.bind p1).imp fun e st2 F2 H2 s2 p2 y hy => ?_⟩
  refine ⟨ρ, sa, F2, st2, s2.rep, (P.bind p2).imp fun f st3 F3 H3 s3 p3 z hz => ?_⟩
  split at p3
  · split at p3
    · rename_i hs
      rw [Bool.and_eq_true, Bool.and_eq_true] at hs
      obtain ⟨h1, h2⟩ := small_of hs.1.1
      obtain ⟨h3, h4⟩ := small_of hs.1.2
      have h5 := of_decide_eq_true hs.2
      subst h5
      exact ⟨_, _, -1, _, by rw [hx.int, hy.int, hz.int], RgC.neg h1 h2 h3 h4, p3.here s3.rep _ jok_rngC⟩
    · exact p3.elim
  · exact p3.elim
theorem Rq.tupF {v : V} {d : List D} {sa : SA} {F : Hp} (h : Rq K sa o F H v (.tuple d)) : ∃ a xs, v = .ref a ∧ SqT K F a xs ∧ RpA K sa F xs d := by
  have hx' := h.tupRp
  cases hx' with
  | tup h1 r => exact ⟨_, _, rfl, .inl (.inr ⟨_, h1⟩), r⟩
  | tupK h1 r => exact ⟨_, _, rfl, Sub.nil.sqT h1.1, r⟩
theorem I_enum {e : E} : TIt K G cl gl o (.enum e) σ H Q → EnT.iEnumA K (tCons (T K G cl gl o e) tNil) σ H Q := by
  rintro ⟨ρ, sa, F, st, R, p⟩
  simp only [evIt] at p
  refine ⟨ρ, sa, F, st, R, (P.bind p).imp fun d st1 F1 H1 s1 p1 x hx => ?_⟩
  split at p1
  · obtain ⟨a, xs, h1, h2, h3, h4⟩ := hx.stand s1.rep
    exact .inl ⟨a, xs, by rw [h1], .inl (.inl h2), p1.here s1.rep _ (jok_enum h4 h3)⟩
  · obtain ⟨a, xs, h1, h2, h3⟩ := hx.tupF
    exact .inr ⟨a, xs, by rw [h1], s1.rep.sub.sqT h2, p1.here s1.rep _ (jok_enumT h2 h3)⟩
  · exact p1.elim
theorem I_zip {a b : E} : TIt K G cl gl o (.zip a b) σ H Q → RZ.iZipA K (tCons (T K G cl gl o a) (tCons (T K G cl gl o b) tNil)) σ H Q := by
  rintro ⟨ρ, sa, F, st, R, p⟩
  simp only [evIt] at p
  refine ⟨ρ, sa, F, st, R, (P.bind p).imp fun d st1 F1 H1 s1 p1 x hx => ?_⟩
  refine ⟨ρ, sa, F1, st1, s1.rep, (P.bind p1).imp fun e st2 F2 H2 s2 p2 y hy => ?_⟩
  split at p2
  · obtain ⟨a, xs, h1, h2, h3, h4⟩ := (hx.mono s2).stand s2.rep
    obtain ⟨b, ys, g1, g2, g3, g4⟩ := hy.stand s2.rep
    exact ⟨a, b, xs, ys, by rw [h1, g1], .inl ⟨.inl (.inl h2), .inl (.inl g2), p2.here s2.rep _ (jok_zip h4 h3 g4 g3)⟩⟩
  · obtain ⟨a, xs, h1, h2, h3⟩ := (hx.mono s2).tupF
    obtain ⟨b, ys, g1, g2, g3⟩ := hy.tupF
    exact ⟨a, b, xs, ys, by rw [h1, g1], .inr ⟨s2.rep.sub.sqT h2, s2.rep.sub.sqT g2, p2.here s2.rep _ (jok_zipT h2 h3 g2 g3)⟩⟩
  · exact p2.elim
theorem I_rev {e : E} : TIt K G cl gl o (.rev e) σ H Q → RT.iRevA K (T K G cl gl o e) σ H Q := by
  rintro ⟨ρ, sa, F, st, R, p⟩
  simp only [evIt] at p
  refine ⟨ρ, sa, F, st, R, (P.bind p).imp fun d st1 F1 H1 s1 p1 x hx => ?_⟩
  obtain ⟨r, hr, q, _⟩ := P.of p1 s1.rep
  unfold seqD at hr
  split at hr
  · cases hr
    obtain ⟨a, xs, h1, h2, h3, h4⟩ := hx.stand s1.rep
    exact ⟨a, xs, h1, .inl ⟨.inl (.inl h2), q _ (jok_rev h4 h3)⟩⟩
  · cases hr
    obtain ⟨a, xs, h1, h2, h3⟩ := hx.tupF
    exact ⟨a, xs, h1, .inr ⟨s1.rep.sub.sqT h2, q _ (jok_revT h2 h3)⟩⟩
  · cases hr
end
end Eng

end
section
set_option Elab.async false
set_option linter.all false
set_option maxRecDepth 100000
set_option maxHeartbeats 4000000
set_option autoImplicit false
/-! Eng, part H0: shapes of the text. -/
namespace Eng
open PySem PySem.Spec PyProof.Rows L2

/-! ### shapes of the text -/
def notStar : Expr → Bool
  | .Starred .. => false
  | _ => true
theorem star_cons {e : Expr} {es : List Expr} {env : PySem.Env} (h : notStar e = true) : starEach (e :: es) env = (false, eval e env) :: starEach es env := by
  cases e <;> first | rfl | cases h
theorem star_any {pos : Pos} {env : PySem.Env} : ∀ {es : List Expr}, es.all notStar = true → (backTo pos (starEach es env)).any (·.1) = false
  | [], _ => rfl
  | e :: es, h => by
    rw [List.all_cons, Bool.and_eq_true] at h
    rw [star_cons h.1]
    exact star_any (es := es) h.2
theorem assign_cons {e : Expr} {es : List Expr} {env : PySem.Env} (h : notStar e = true) : assignEach (e :: es) env = (false, assign e env) :: assignEach es env := by
  cases e <;> first | rfl | cases h
theorem assign_len {env : PySem.Env} : ∀ {es : List Expr}, es.all notStar = true → (assignEach es env).length = es.length ∧ (assignEach es env).findIdx? (·.1) = none
  | [], _ => ⟨rfl, rfl⟩
  | e :: es, h => by
    rw [List.all_cons, Bool.and_eq_true] at h
    rw [assign_cons h.1]
    obtain ⟨h1, h2⟩ := assign_len (env := env) h.2
    refine ⟨by rw [List.length_cons, List.length_cons, h1], ?_⟩
    rw [List.findIdx?_cons]
    simp [h2]
def plainTest : Expr → Bool
  | .UnaryOp .Not _ _ => false
  | .BoolOp .. => false
  | .IfExp .. => false
  | .Compare .. => false
  | _ => true
theorem test_plain {e : Expr} {env : PySem.Env} (h : plainTest e = true) : ∀ whole, isTrue e env whole = (do let v ← whole; standAt e.pos; holding [v] (truthy v)) := by
  intro whole
  cases e <;> first | rfl | (cases h; done) | (rename_i op _ _; cases op <;> first | rfl | cases h)
def notSlice : Expr → Bool
  | .Slice .. => false
  | _ => true
theorem ix_plain {b : Expr} (h : notSlice b = true) : PlainIx b := by
  intro o i
  cases b <;> first | rfl | cases h
theorem ix_nosl {b : Expr} (h : notSlice b = true) : NoSl b := by
  intro o i
  cases b <;> first | rfl | cases h
def notSet : Expr → Bool
  | .Set .. => false
  | _ => true
theorem behind_of {b : Expr} {op : CmpOp} (h : notSet b = true) : behindInMarks op b = false := by
  cases b <;> first | rfl | cases h
theorem iter_plain {b : Expr} {env : PySem.Env} (h : notSet b = true) : ∀ x, foldedSetIterable b env x = pure x := by
  intro x
  cases b <;> first | rfl | cases h
def plainBase : Expr → Bool
  | .Call .. => false
  | _ => true
theorem base_plain {o : Expr} {a : Str} {env : PySem.Env} (h : plainBase o = true) : attributeBase o a env (eval o env) = eval o env := by
  cases o <;> first | rfl | cases h

theorem _root_.L2.PE.weak {X : Cx} {e : Expr} {t t' : TE} (h : PE X e t) (f : ∀ σ H Q, t' σ H Q → t σ H Q) : PE X e t' := ⟨fun pins s σ H Q I q => h.run pins s σ H Q I (f _ _ _ q)⟩
theorem _root_.L2.PT.weak {X : Cx} {e : Expr} {t t' : TT} (h : PT X e t) (f : ∀ σ H Q, t' σ H Q → t σ H Q) : PT X e t' := ⟨fun pins s σ H Q I q => h.run pins s σ H Q I (f _ _ _ q)⟩
theorem _root_.L2.PA.weak {X : Cx} {e : List Expr} {t t' : TA} (h : PA X e t) (f : ∀ σ H Q, t' σ H Q → t σ H Q) : PA X e t' := ⟨fun pos pins s σ H Q I q => h.run pos pins s σ H Q I (f _ _ _ q)⟩
theorem _root_.L2.PO.weak {X : Cx} {e : Option Expr} {t t' : TO} (h : PO X e t) (f : ∀ σ H Q, t' σ H Q → t σ H Q) : PO X e t' := ⟨fun pins s σ H Q I q => h.run pins s σ H Q I (f _ _ _ q)⟩
theorem _root_.L2.PI.weak {X : Cx} {tg e : Expr} {t t' : TI} (h : PI X tg e t) (f : ∀ σ H Q, t' σ H Q → t σ H Q) : PI X tg e t' := ⟨fun pins s σ H Q I q => h.run pins s σ H Q I (f _ _ _ q)⟩
theorem _root_.L2.PTs.weak {X : Cx} {e : List Expr} {t t' : TT} (h : PTs X e t) (f : ∀ σ H Q, t' σ H Q → t σ H Q) : PTs X e t' := ⟨fun pins s σ H Q I q => h.run pins s σ H Q I (f _ _ _ q)⟩
theorem pw_of {X : Cx} {op : BoolOp} {vs : List Expr} {pos : Pos} {t : TT} (h : PT X (.BoolOp op vs pos) t) : PW X (.BoolOp op vs pos) t := ⟨fun whole pins s σ H Q I q => h.run pins s σ H Q I q⟩

/-! ### the checker -/
/-- names by slots; the defs with the number of their parameters; the module's constants -/
structure CC where
  N : List Str
  fns : List (Str × Nat)
  gls : List Str
  /-- does the def make generators? -/
  gen : Bool := false
  /-- may it say repr? -/
  rep : Bool := false
def visB (sc : Scope) (x : Str) : Bool := match sc.names.lookup x with
  | some .local => true
  | some .cell => true
  | some .free => true
  | _ => false
def glB (sc : Scope) (x : Str) : Bool := match sc.names.lookup x with
  | some .globalImplicit => true
  | _ => false
def locB (sc : Scope) (own : Str → Bool) (x : Str) : Bool := match sc.names.lookup x with
  | some .local => true
  | some .cell => own x
  | _ => false
def okName (x : Str) : Bool := decide (x ≠ "__debug__") && decide (x ≠ "__classdict__") && decide (x ≠ "__name__")
def isConst (d : D) (x : Expr) : Bool := match d, x with
  | .none, .Constant .none _ _ => true
  | .bool b, .Constant (.bool c) _ _ => b == c
  | .int b, .Constant (.int c) _ _ => decide (b = c)
  | .str b, .Constant (.str c) _ _ => decide (b = c)
  | _, _ => false
def isName (x : Str) : Expr → Bool
  | .Name y _ => decide (x = y)
  | _ => false
/-- the call of a name with these arguments -/
def callOf : Expr → Option (Str × List Expr)
  | .Call (.Name x _) es [] _ => some (x, es)
  | _ => none
theorem okName_of {x : Str} (h : okName x = true) : (x == ("__debug__" : Str)) = false ∧ (x == ("__classdict__" : Str)) = false := by
  unfold okName at h
  simp only [Bool.and_eq_true, decide_eq_true_eq] at h
  exact ⟨beq_eq_false_iff_ne.mpr h.1.1, beq_eq_false_iff_ne.mpr h.1.2⟩
end Eng

end
section
set_option Elab.async false
set_option linter.all false
set_option maxRecDepth 100000
set_option maxHeartbeats 4000000
set_option autoImplicit false
/-! Qt, part A: a generator expression's test, evaluated in the generator's own frame: nothing that stands is changed. -/
namespace Eng
open PySem PySem.Spec PyProof.Rows L2

/-- v stands for the data d -/
def Rd (h : Heap) (v : Value) (d : D) : Prop := ∃ as, Reads h v d as
theorem keeps_trans {s s1 s2 : Shared} (a : Keeps s s1) (b : Keeps s1 s2) : Keeps s s2 := by
  obtain ⟨h1, t1, rfl, k1⟩ := a
  obtain ⟨h2, t2, rfl, k2⟩ := b
  exact ⟨h2, t2, rfl, fun x o e => k2 x o (k1 x o e)⟩
theorem keeps_same (s : Shared) : Keeps s s := ⟨s.heap, s.toks, rfl, fun _ _ e => e⟩
theorem keeps_toks (s : Shared) (t : Nat) : Keeps s { s with toks := t } := ⟨s.heap, t, rfl, fun _ _ e => e⟩
theorem Keeps.old {s s1 : Shared} (a : Keeps s s1) {b : Addr} {o : Obj} (e : s.heap.get? b = some o) : s1.heap.get? b = some o := by
  obtain ⟨h1, t1, rfl, k1⟩ := a
  exact k1 b o e
mutual
theorem reads_mono {h h' : Heap} (k : ∀ b o, h.get? b = some o → (o.cls = .type "list" ∨ o.cls = .type "tuple" ∨ o.cls = .type "dict") → h'.get? b = some o) : ∀ {v : Value} {d : D} {as : List Addr}, Reads h v d as → Reads h' v d as
  | _, _, _, .none => .none
  | _, _, _, .bool b => .bool b
  | _, _, _, .int i t => .int i t
  | _, _, _, .str x t => .str x t
  | _, _, _, .list h1 h2 h3 h4 => .list (k _ _ h1 (.inl h2)) h2 h3 (readsAll_mono k h4)
  | _, _, _, .tuple h1 h2 h3 h4 => .tuple (k _ _ h1 (.inr (.inl h2))) h2 h3 (readsAll_mono k h4)
  | _, _, _, .dict h1 h2 h3 h4 h5 => .dict (k _ _ h1 (.inr (.inr h2))) h2 h3 (readsAll_mono k h4) (readsAll_mono k h5)
theorem readsAll_mono {h h' : Heap} (k : ∀ b o, h.get? b = some o → (o.cls = .type "list" ∨ o.cls = .type "tuple" ∨ o.cls = .type "dict") → h'.get? b = some o) : ∀ {v : List Value} {d : List D} {as : List Addr}, ReadsAll h v d as → ReadsAll h' v d as
  | _, _, _, .nil => .nil
  | _, _, _, .cons a b => .cons (reads_mono k a) (readsAll_mono k b)
end
theorem Rd.keeps {s s1 : Shared} {v : Value} {d : D} (r : Rd s.heap v d) (k : Keeps s s1) : Rd s1.heap v d := by
  obtain ⟨as, r⟩ := r
  exact ⟨as, reads_mono (fun b o e _ => Keeps.old k e) r⟩
theorem readsAll_at {h : Heap} : ∀ {vs : List Value} {ds : List D} {as : List Addr} {j : Nat} {d : D}, ReadsAll h vs ds as → ds[j]? = some d → ∃ v, vs[j]? = some v ∧ Rd h v d
  | _, _, _, 0, _, .cons a b, e => by
    cases e
    exact ⟨_, rfl, _, a⟩
  | _, _, _, j + 1, _, .cons a b, e => readsAll_at (j := j) b e
theorem readsAll_len {h : Heap} : ∀ {vs : List Value} {ds : List D} {as : List Addr}, ReadsAll h vs ds as → vs.length = ds.length
  | _, _, _, .nil => rfl
  | _, _, _, .cons a b => by rw [List.length_cons, List.length_cons, readsAll_len b]

/-! ### what stands -/
/-- the frame of the walk: its env, the name x, the def's names by slots -/
structure QSt (cenv : PySem.Env) (N : List Str) (x : Str) (ρ : Eng.Env) (d : D) (s : Shared) : Prop where
  loc : ∃ m v, s.heap.Ns cenv.locals m ∧ m x = some v ∧ Rd s.heap v d
  free : ∀ (i : Nat) (y : Str) (e : D), N[i]? = some y → cenv.scope.names.lookup y = some .free → ρ[i]? = some (.val e) → e.canLay0 = true → ∃ c v, cenv.cells.lookup y = some c ∧ s.heap.IsCell c (some v) ∧ Rd s.heap v e
theorem QSt.keeps {cenv : PySem.Env} {N : List Str} {x : Str} {ρ : Eng.Env} {d : D} {s s1 : Shared} (h : QSt cenv N x ρ d s) (k : Keeps s s1) : QSt cenv N x ρ d s1 := by
  obtain ⟨⟨m, v, h1, h2, h3⟩, h4⟩ := h
  refine ⟨⟨m, v, ?_, h2, h3.keeps k⟩, fun i y e a b c l => ?_⟩
  · obtain ⟨ob, es, ep, ho, r⟩ := h1
    exact ⟨ob, es, ep, Keeps.old k ho, r⟩
  · obtain ⟨q, u, g1, ⟨o, g2, g3⟩, g4⟩ := h4 i y e a b c l
    exact ⟨q, u, g1, ⟨o, Keeps.old k g2, g3⟩, g4.keeps k⟩

/-! ### which text a test stands for -/
def chkQ (N : List Str) (ns : List (Str × NameKind)) (x : Str) : QE → Expr → Bool
  | .loc, t => match t with
    | .Name y _ => decide (y = x) && okName y
    | _ => false
  | .var i, t => match t with
    | .Name y _ => decide (N[i]? = some y) && decide (ns.lookup y = some .free) && okName y
    | _ => false
  | .int n, t => match t with
    | .Constant (.int m) _ _ => decide (n = m)
    | _ => false
  | .str z, t => match t with
    | .Constant (.str m) _ _ => decide (z = m)
    | _ => false
  | .idx a b, t => match t with
    | .Subscript l r _ => notSlice r && chkQ N ns x a l && chkQ N ns x b r
    | _ => false
  | .bin op a b, t => match t with
    | .BinOp l p r _ => decide (p = op.op) && chkQ N ns x a l && chkQ N ns x b r
    | _ => false
  | .cmp op a b, t => match t with
    | .Compare l [p] [r] _ => decide (p = op.op) && notSet r && chkQ N ns x a l && chkQ N ns x b r
    | _ => false
  | .chain o p a b c, t => match t with
    | .Compare l [q, q'] [r, r'] _ => decide (q = o.op) && decide (q' = p.op) && notSet r' && chkQ N ns x a l && chkQ N ns x b r && chkQ N ns x c r'
    | _ => false
  | .and a b, t => match t with
    | .BoolOp .And [l, r] _ => chkQ N ns x a l && chkQ N ns x b r
    | _ => false
  | .or a b, t => match t with
    | .BoolOp .Or [l, r] _ => chkQ N ns x a l && chkQ N ns x b r
    | _ => false
  | .not a, t => match t with
    | .UnaryOp .Not l _ => chkQ N ns x a l
    | _ => false

section
variable {prog : Program} {w : World} {A : Around} {cenv : PySem.Env} {N : List Str} {x : Str} {ρ : Eng.Env} {dx : D}
/-- what is said of a value that is found -/
abbrev QK (s : Shared) (d : D) (Q : Value → Shared → Prop) : Prop := ∀ v s', Keeps s s' → Rd s'.heap v d → Q v s'
theorem cmpQ_ok (hu : A.units + 65 < cLine) {c : COp} {d e : D} {k : Bool} {s : Shared} {v u : Value} {E : Value → Shared → Prop} {Q : Value → Shared → Prop} (h : cmpQ c d e = some k) (rv : Rd s.heap v d) (ru : Rd s.heap u e) (q : Q (.bool k) s) : wpAny (model prog w) A (compareOp c.op v u) Q E s := by
  obtain ⟨as, rv⟩ := rv
  obtain ⟨bs, ru⟩ := ru
  have ord : ∀ {p : Int → Int → Bool}, ordQ p d e = some k → ∃ i j t t', v = .int i t ∧ u = .int j t' ∧ p i j = k := by
    intro p h
    unfold ordQ at h
    split at h
    · cases h
      cases rv
      cases ru
      exact ⟨_, _, _, _, rfl, rfl, rfl⟩
    · cases h
  have inn : ∀ {k' : Bool}, inQ d e = some k' → (∃ ds, e = .list ds ∧ SeqAt.shaped d = true ∧ SeqAt.shaped (.list ds) = true ∧ (ds.any fun z => PyData.eqv z d) = k') ∨ ∃ ds, e = .tuple ds ∧ SeqAt.shaped d = true ∧ SeqAt.shaped (.tuple ds) = true ∧ (ds.any fun z => PyData.eqv z d) = k' := by
    intro k' h
    unfold inQ at h
    split at h
    · split at h
      · rename_i z
        rw [Bool.and_eq_true] at z
        cases h
        exact .inl ⟨_, rfl, z.1, z.2, rfl⟩
      · cases h
    · split at h
      · rename_i z
        rw [Bool.and_eq_true] at z
        cases h
        exact .inr ⟨_, rfl, z.1, z.2, rfl⟩
      · cases h
    · cases h
  have dep : ∀ {ds : List D}, SeqAt.shaped d = true → A.units + 1 + min (PyData.depthAll ds) d.depth < cLine := fun sd => room_in_shaped sd hu
  cases c with
  | eq =>
    have h : eqD d e = some k := h
    unfold eqD at h
    split at h
    · rename_i z
      rw [Bool.and_eq_true] at z
      cases h
      exact SeqAt.compareEq_shaped rv ru z.1 z.2 (by omega) q
    · cases h
  | ne =>
    have h : (eqD d e).map (!·) = some k := h
    unfold eqD at h
    split at h
    · rename_i z
      rw [Bool.and_eq_true] at z
      cases h
      exact SeqAt.compareNe_shaped rv ru z.1 z.2 (by omega) q
    · cases h
  | lt => obtain ⟨i, j, t, t', rfl, rfl, rfl⟩ := ord h; exact lt_int q
  | le => obtain ⟨i, j, t, t', rfl, rfl, rfl⟩ := ord h; exact le_int q
  | gt => obtain ⟨i, j, t, t', rfl, rfl, rfl⟩ := ord h; exact gt_int q
  | ge => obtain ⟨i, j, t, t', rfl, rfl, rfl⟩ := ord h; exact ge_int q
  | inn =>
    rcases inn h with ⟨ds, rfl, sd, sl, rfl⟩ | ⟨ds, rfl, sd, sl, rfl⟩
    · exact SeqAt.in_list_reads ru rv (SeqAt.canLay_of_shaped sl) (SeqAt.canLay_of_shaped sd) (dep sd) q
    · exact SeqAt.in_tuple_reads ru rv (by have := SeqAt.canLay_of_shaped sl; simpa [PyData.canLay0] using this) (SeqAt.canLay_of_shaped sd) (dep sd) q
  | nin =>
    have h : (inQ d e).map (!·) = some k := h
    cases z : inQ d e with
    | none => rw [z] at h; cases h
    | some k' =>
      rw [z] at h
      cases h
      rcases inn z with ⟨ds, rfl, sd, sl, rfl⟩ | ⟨ds, rfl, sd, sl, rfl⟩
      · exact SeqAt.notIn_list_reads ru rv (SeqAt.canLay_of_shaped sl) (SeqAt.canLay_of_shaped sd) (dep sd) q
      · exact SeqAt.notIn_tuple_reads ru rv (by have := SeqAt.canLay_of_shaped sl; simpa [PyData.canLay0] using this) (SeqAt.canLay_of_shaped sd) (dep sd) q
theorem idxQ_ok {value slice : Expr} {d e f : D} {s : Shared} {v u : Value} {E : Value → Shared → Prop} {Q : Value → Shared → Prop} (h : idxQ d e = some f) (rv : Rd s.heap v d) (ru : Rd s.heap u e) (hs : subscripted slice false v u = operate [v, u] (getItem v u)) (q : QK s f Q) : wpAny (model prog w) A (subscriptTail value slice v u) Q E s := by
  obtain ⟨as, rv⟩ := rv
  obtain ⟨bs, ru⟩ := ru
  unfold idxQ at h
  have hn := line63
  split at h
  · rename_i xs i
    split at h
    · rename_i hz
      cases ru
      rename_i t
      cases rv with
      | list h1 h2 h3 h4 =>
        rename_i a o vs n as'
        have hlist : s.heap.IsList a vs := ⟨_, h1, h2, _, h3⟩
        obtain ⟨j, e1, e2, e3, e4, e5⟩ := atI_get h
        obtain ⟨y, ey, ry⟩ := readsAll_at h4 e2
        have hl := readsAll_len h4
        have hl' : vs.size = xs.length := by rw [← hl]; simp
        have fin : Q y s := q y s (keeps_same s) ry
        by_cases h0 : 0 ≤ i
        · have hj : i.toNat = j := by
            rw [seqIndex_of h0 e5] at e1
            exact Option.some.inj e1
          exact item_listR hlist h0 (by omega) (by rw [hj, ← Array.getElem?_toList]; exact ey) fin hs
        · have hj : (i + (vs.size : Int)).toNat = j := by
            rw [seqIndex_neg (by omega) e4] at e1
            rw [hl']
            exact Option.some.inj e1
          exact subscriptTail_builtinR (x := y) hlist.typeIs slot_list_getitem.lookup
            (wpAny_getItem_list_neg (Q := fun r s' => r = y ∧ Q r s') hlist (by omega) (by omega) (by omega) (by rw [hj, ← Array.getElem?_toList]; exact ey) ⟨rfl, fin⟩) hs
    · cases h
  · rename_i xs i
    split at h
    · rename_i hz
      cases ru
      rename_i t
      cases rv with
      | tuple h1 h2 h3 h4 =>
        rename_i a o vs n
        have htup : IsTup s.heap a vs := ⟨_, h1, h2, _, h3⟩
        obtain ⟨j, e1, e2, e3, e4, e5⟩ := atI_get h
        obtain ⟨y, ey, ry⟩ := readsAll_at h4 e2
        have hl := readsAll_len h4
        have hl' : vs.size = xs.length := by rw [← hl]; simp
        have fin : Q y s := q y s (keeps_same s) ry
        exact subscriptTail_builtinR (x := y) htup.typeIs slot_tuple_getitem.lookup
          (getItem_tuple (j := j) (Q := fun r s' => r = y ∧ Q r s') htup (by omega) (by omega) (by rw [hl']; exact e1) (by rw [← Array.getElem?_toList]; exact ey) ⟨rfl, fin⟩) hs
    · cases h
  · cases h
theorem binQ_ok {op : BOp} {d e f : D} {s : Shared} {v u : Value} {E : Value → Shared → Prop} {Q : Value → Shared → Prop} (h : binQ op d e = some f) (rv : Rd s.heap v d) (ru : Rd s.heap u e) (q : QK s f Q) : wpAny (model prog w) A (binaryOp op.op v u) Q E s := by
  obtain ⟨as, rv⟩ := rv
  obtain ⟨bs, ru⟩ := ru
  unfold binQ at h
  split at h
  · cases h
    cases rv
    cases ru
    exact add_int (q _ _ (keeps_toks _ _) ⟨_, .int _ _⟩)
  · cases h
    cases rv
    cases ru
    exact sub_int (q _ _ (keeps_toks _ _) ⟨_, .int _ _⟩)
  · split at h
    · rename_i hz
      cases h
      cases rv
      cases ru
      exact mod_int (by omega) (q _ _ (keeps_toks _ _) ⟨_, by rw [Int.fmod_eq_emod_of_nonneg _ (by omega)]; exact .int _ _⟩)
    · cases h
  · cases h
theorem q_ok (hk : cenv.scope.kind = .function) (hu : A.units + 65 < cLine) (hx : cenv.scope.names.lookup x = some .local) : ∀ (q : QE) (t : Expr) (d : D) (s : Shared) (Q : Value → Shared → Prop) (E : Value → Shared → Prop), chkQ N cenv.scope.names x q t = true → qev ρ dx q = some d → QSt cenv N x ρ dx s → QK s d Q → wpAny (model prog w) A (eval t cenv) Q E s
  | .loc, t, d, s, Q, E, hc, hq, st, q => by
    cases t <;> simp only [chkQ, Bool.false_eq_true, Bool.and_eq_true, decide_eq_true_eq] at hc
    obtain ⟨rfl, ok⟩ := hc
    cases hq
    obtain ⟨⟨m, v, h1, h2, h3⟩, _⟩ := st
    exact wpAny_Name (wpAny_loadName_local hk hx h1 h2 (q v s (keeps_same s) h3)) (okName_of ok).1
  | .var i, t, d, s, Q, E, hc, hq, st, q => by
    cases t <;> simp only [chkQ, Bool.false_eq_true, Bool.and_eq_true, decide_eq_true_eq] at hc
    obtain ⟨⟨e1, e2⟩, ok⟩ := hc
    unfold qev at hq
    split at hq
    · rename_i d' e
      split at hq
      · rename_i hz
        cases hq
        obtain ⟨c, v, g1, g2, g3⟩ := st.free _ _ _ e1 e2 e hz
        exact wpAny_Name (wpAny_loadName_free hk e2 g1 g2 (q v s (keeps_same s) g3) (okName_of ok).2) (okName_of ok).1
      · cases hq
    · cases hq
  | .int n, t, d, s, Q, E, hc, hq, st, q => by
    cases t <;> simp only [chkQ, Bool.false_eq_true] at hc
    rename_i c _ _
    cases c <;> simp only [Bool.false_eq_true, decide_eq_true_eq] at hc
    subst hc
    cases hq
    exact wpAny_Constant_int (q _ _ (keeps_toks _ _) ⟨_, .int _ _⟩)
  | .str n, t, d, s, Q, E, hc, hq, st, q => by
    cases t <;> simp only [chkQ, Bool.false_eq_true] at hc
    rename_i c _ _
    cases c <;> simp only [Bool.false_eq_true, decide_eq_true_eq] at hc
    subst hc
    cases hq
    exact Calls.Constant_str (q _ _ (keeps_toks _ _) ⟨_, .str _ _⟩)
  | .idx a b, t, d, s, Q, E, hc, hq, st, q => by
    cases t <;> simp only [chkQ, Bool.false_eq_true, Bool.and_eq_true] at hc
    obtain ⟨⟨h1, h2⟩, h3⟩ := hc
    simp only [qev, Option.bind_eq_some_iff] at hq
    obtain ⟨da, qa, db, qb, hq⟩ := hq
    refine Subscript_ (q_ok hk hu hx a _ da s _ _ h2 qa st fun v s1 k1 r1 => q_ok hk hu hx b _ db s1 _ _ h3 qb (st.keeps k1) fun u s2 k2 r2 => ?_)
    exact idxQ_ok hq (r1.keeps k2) r2 (ix_plain h1 _ _) fun z s3 k3 r3 => q z s3 (keeps_trans k1 (keeps_trans k2 k3)) r3
  | .bin op a b, t, d, s, Q, E, hc, hq, st, q => by
    cases t <;> simp only [chkQ, Bool.false_eq_true, Bool.and_eq_true, decide_eq_true_eq] at hc
    obtain ⟨⟨h1, h2⟩, h3⟩ := hc
    subst h1
    simp only [qev, Option.bind_eq_some_iff] at hq
    obtain ⟨da, qa, db, qb, hq⟩ := hq
    refine wpAny_BinOp (q_ok hk hu hx a _ da s _ _ h2 qa st fun v s1 k1 r1 => q_ok hk hu hx b _ db s1 _ _ h3 qb (st.keeps k1) fun u s2 k2 r2 => ?_)
    exact binQ_ok hq (r1.keeps k2) r2 fun z s3 k3 r3 => q z s3 (keeps_trans k1 (keeps_trans k2 k3)) r3
  | .cmp op a b, t, d, s, Q, E, hc, hq, st, q => by
    cases t <;> simp only [chkQ, Bool.false_eq_true] at hc
    rename_i l ops rs pos
    match ops, rs, hc with
    | [p], [r], hc =>
    simp only [Bool.and_eq_true, decide_eq_true_eq] at hc
    obtain ⟨⟨⟨h1, h4⟩, h2⟩, h3⟩ := hc
    subst h1
    simp only [qev, Option.bind_eq_some_iff, Option.map_eq_some_iff] at hq
    obtain ⟨da, qa, db, qb, k, hq, rfl⟩ := hq
    refine wpAny_Compare1 (q_ok hk hu hx a _ da s _ _ h2 qa st fun v s1 k1 r1 => q_ok hk hu hx b _ db s1 _ _ h3 qb (st.keeps k1) fun u s2 k2 r2 => ?_) (behind_of h4)
    exact cmpQ_ok hu hq (r1.keeps k2) r2 (q _ _ (keeps_trans k1 k2) ⟨_, .bool _⟩)
  | .chain o p a b c, t, d, s, Q, E, hc, hq, st, q => by
    cases t <;> simp only [chkQ, Bool.false_eq_true] at hc
    rename_i l ops rs pos
    match ops, rs, hc with
    | [o1, o2], [r, r'], hc =>
    simp only [Bool.and_eq_true, decide_eq_true_eq] at hc
    obtain ⟨⟨⟨⟨⟨h1, h2⟩, h3⟩, h4⟩, h5⟩, h6⟩ := hc
    subst h1 h2
    simp only [qev, Option.bind_eq_some_iff] at hq
    obtain ⟨da, qa, db, qb, k, hk1, hq⟩ := hq
    refine Compare_chain (q_ok hk hu hx a _ da s _ _ h4 qa st fun v s1 k1 r1 => chain_link (q_ok hk hu hx b _ db s1 _ _ h5 qb (st.keeps k1) fun u s2 k2 r2 => ?_)) (behind_of h3)
    refine cmpQ_ok hu hk1 (r1.keeps k2) r2 (wpAny_truthy_bool ?_)
    cases k with
    | false =>
      cases hq
      exact ite_ff (q _ _ (keeps_trans k1 k2) ⟨_, .bool _⟩)
    | true =>
      simp only [if_true, Option.bind_eq_some_iff, Option.map_eq_some_iff] at hq
      obtain ⟨dc, qc, k', hk2, rfl⟩ := hq
      refine ite_tt (chain_last (q_ok hk hu hx c _ dc s2 _ _ h6 qc (st.keeps (keeps_trans k1 k2)) fun y s3 k3 r3 => ?_))
      exact cmpQ_ok hu hk2 (r2.keeps k3) r3 (q _ _ (keeps_trans k1 (keeps_trans k2 k3)) ⟨_, .bool _⟩)
  | .and a b, t, d, s, Q, E, hc, hq, st, q => by
    cases t <;> simp only [chkQ, Bool.false_eq_true] at hc
    rename_i op vs pos
    match op, vs, hc with
    | .And, [l, r], hc =>
    simp only [Bool.and_eq_true] at hc
    simp only [qev, Option.bind_eq_some_iff] at hq
    obtain ⟨da, qa, hq⟩ := hq
    refine BoolOp_and (q_ok hk hu hx a _ da s _ _ hc.1 qa st fun v s1 k1 r1 => ?_)
    obtain ⟨_, r1⟩ := r1
    split at hq
    · cases r1
      exact wpAny_truthy_bool (BoolOp_one (q_ok hk hu hx b _ d s1 _ _ hc.2 hq (st.keeps k1) fun u s2 k2 r2 => q u s2 (keeps_trans k1 k2) r2))
    · cases r1
      cases hq
      exact wpAny_truthy_bool (q _ _ k1 ⟨_, .bool _⟩)
    · cases hq
  | .or a b, t, d, s, Q, E, hc, hq, st, q => by
    cases t <;> simp only [chkQ, Bool.false_eq_true] at hc
    rename_i op vs pos
    match op, vs, hc with
    | .Or, [l, r], hc =>
    simp only [Bool.and_eq_true] at hc
    simp only [qev, Option.bind_eq_some_iff] at hq
    obtain ⟨da, qa, hq⟩ := hq
    refine BoolOp_or (q_ok hk hu hx a _ da s _ _ hc.1 qa st fun v s1 k1 r1 => ?_)
    obtain ⟨_, r1⟩ := r1
    split at hq
    · cases r1
      cases hq
      exact wpAny_truthy_bool (q _ _ k1 ⟨_, .bool _⟩)
    · cases r1
      exact wpAny_truthy_bool (BoolOp_one (q_ok hk hu hx b _ d s1 _ _ hc.2 hq (st.keeps k1) fun u s2 k2 r2 => q u s2 (keeps_trans k1 k2) r2))
    · cases hq
  | .not a, t, d, s, Q, E, hc, hq, st, q => by
    cases t <;> simp only [chkQ, Bool.false_eq_true] at hc
    rename_i op l pos
    cases op <;> simp only [Bool.false_eq_true] at hc
    simp only [qev, Option.bind_eq_some_iff] at hq
    obtain ⟨da, qa, hq⟩ := hq
    refine UnaryOp_ (q_ok hk hu hx a _ da s _ _ hc qa st fun v s1 k1 r1 => ?_)
    obtain ⟨_, r1⟩ := r1
    split at hq
    · cases r1
      cases hq
      exact not_of (wpAny_truthy_bool (q _ _ k1 ⟨_, .bool _⟩))
    · cases hq
end
end Eng

end
section
set_option Elab.async false
set_option linter.all false
set_option maxRecDepth 100000
set_option maxHeartbeats 4000000
set_option autoImplicit false
/-! Qt, part B: any, all of a generator expression over a list or a tuple. -/
namespace Eng
open PySem PySem.Spec PyProof.Rows L2 GxR

theorem clo_at {cells : List (Str × Addr)} {names : List (Str × NameKind)} {y : Str} {c : Addr} (hy : (y, NameKind.free) ∈ names) (hc : cells.lookup y = some c) : (cloFrom cells names []).lookup y = some c := by
  have hm := cloFrom_has (cells := cells) (acc := []) hy
  rw [hc, Option.getD_some] at hm
  have key : ∀ l : List (Str × Addr), (y, c) ∈ l → (∀ c', (y, c') ∈ l → c' = c) → l.lookup y = some c := by
    intro l
    induction l with
    | nil => intro h _; cases h
    | cons p l ih =>
      obtain ⟨z, d⟩ := p
      intro h u
      by_cases e : y = z
      · subst e
        rw [List.lookup_cons_self, u d (List.mem_cons_self ..)]
      · have e' : (y == z) = false := by simpa using e
        rw [List.lookup_cons, e']
        refine ih ?_ fun c' hc' => u c' (List.mem_cons_of_mem _ hc')
        rcases List.mem_cons.mp h with q | q
        · cases q; exact absurd rfl e
        · exact q
  refine key _ hm fun c' h => ?_
  rcases cloFrom_mem h with q | ⟨_, q⟩
  · cases q
  · rw [q, hc]; rfl
theorem lookup_mem {α : Type} {y : Str} {k : α} : ∀ {l : List (Str × α)}, l.lookup y = some k → (y, k) ∈ l
  | [], h => by cases h
  | (z, k') :: l, h => by
    by_cases e : y = z
    · subst e
      rw [List.lookup_cons_self] at h
      cases h
      exact List.mem_cons_self ..
    · have e' : (y == z) = false := by simpa using e
      rw [List.lookup_cons, e'] at h
      exact List.mem_cons_of_mem _ (lookup_mem h)

/-- what the walk's names stand for -/
def FreeOk (K : PySem.W.Frag) (N : List Str) (names : List (Str × NameKind)) (ρ : Eng.Env) (σ : L2.St) (H : Hp) : Prop :=
  ∀ (i : Nat) (y : Str) (e : D), N[i]? = some y → names.lookup y = some .free → ρ[i]? = some (.val e) → e.canLay0 = true → ∃ v, σ[i]? = some (some v) ∧ Dp K H v e
theorem qevs_at {ρ : Eng.Env} {q : QE} : ∀ {ds : List D} {bs : List Bool}, qevs ρ q ds = some bs → bs.length = ds.length ∧ ∀ (i : Nat) (d : D), ds[i]? = some d → d.canLay0 = true ∧ ∃ b, bs[i]? = some b ∧ qev ρ d q = some (.bool b)
  | [], bs, h => by
    cases h
    exact ⟨rfl, fun i d e => by cases e⟩
  | d :: ds, bs, h => by
    unfold qevs at h
    split at h
    · rename_i b bs' h1 h2 h3
      cases h
      obtain ⟨l, g⟩ := qevs_at h3
      refine ⟨by rw [List.length_cons, List.length_cons, l], fun i e he => ?_⟩
      cases i with
      | zero => cases he; exact ⟨h1, _, rfl, h2⟩
      | succ i => exact g i e he
    · cases h
section
variable {X : Cx} {pins : List (Addr × Obj)} {σ : L2.St} {H : Hp} {s : Shared}
/-- the generator at g gives the truth values bs -/
def GReady (X : Cx) (pins : List (Addr × Obj)) (σ : L2.St) (H1 : Hp) (P : Addr) (bs : List Bool) (g : Addr) (s5 : Shared) : Prop :=
  ∃ (fp wr : List Addr) (G : Array GenState → Array GenState → Prop) (F : Nat → Value → Prop) (St : Nat → Shared → Prop),
    WalksS X.prog X.w X.A.in1 g fp wr G bs.length F St ∧ St 0 s5 ∧ TruthOf X.prog X.w X.A.in1 F (fun j => bs.getD j false) ∧
    ∀ s', Moved wr G s5 s' → ∃ H2, Tabbed P H1 H2 ∧ Inv X pins σ H2 s'
/-- behind the iterator: the generator is made -/
theorem gen_core {c P : Addr} {elt : Expr} {x : Str} {gpos : Pos} {scope : Scope} {ρ : Eng.Env} {q : QE} {k : Nat} {Q' : Value → Shared → Prop} {H1 : Hp} {s1 : Shared} {o : Obj} {ds : List D} {bs : List Bool} {n : Nat} {fpI : List Addr} {Pf : Nat → Value → Prop} {St : Nat → Heap → Prop}
    (hr : Room k X.A) (TB : TabB X.base X.mg c P) (hcode : X.env.code = .ref c) (S : GenS X.env scope x) (hel : chkQ X.N scope.names x q elt = true)
    (hfr : ∀ y, scope.names.lookup y = some .free → X.env.scope.names.lookup y = some .cell)
    (I1 : Inv X pins σ H1 s1) (hT : TabG H1 P) (hbs : qevs ρ q ds = some bs) (hF : FreeOk X.K X.N scope.names ρ σ H1)
    (W : ∀ A' : Around, A'.handled = none → Walks X.prog X.w A' s1.heap.objs.size fpI [s1.heap.objs.size] n Pf St) (hst : St 0 (s1.heap.push o)) (hn : n = ds.length)
    (hfp : ∀ b ∈ fpI, b = s1.heap.objs.size ∨ (b < s1.heap.objs.size ∧ b ≠ P)) (hPf : ∀ i v, Pf i v → ∃ d, ds[i]? = some d ∧ (d.canLay0 = true → ∀ s2 : Shared, (∀ b ob, s1.heap.get? b = some ob → (ob.cls = .type "list" ∨ ob.cls = .type "tuple" ∨ ob.cls = .type "dict") → s2.heap.get? b = some ob) → Rd s2.heap v d))
    (hQ : ∀ g s5, GReady X pins σ H1 P bs g s5 → Q' (.ref g) s5) :
    (s1.heap.push o).NoLimit ∧ wpAny (model X.prog X.w) X.A (genexprCode X.env gpos (X.env.qual ++ "<genexpr>") scope) (fun code s₃ => wpAny (model X.prog X.w) X.A (builtinsFor X.env.globals X.env.builtins) (fun bi s₄ =>
        ∃ Ia fp wr n₀ Pf St₀ pz F, Value.ref s1.heap.objs.size = .ref Ia ∧ (∀ A' : Around, A'.handled = none → Walks X.prog X.w A' Ia fp wr n₀ Pf St₀) ∧ St₀ 0 s₄.heap ∧ (∀ b ∈ fp, b < s₄.heap.objs.size) ∧ s₄.heap.NoLimit ∧ cStatics ∉ wr ∧
          (∀ href : Heap, (∀ b o, s₄.heap.get? b = some o → href.get? b = some o) →
            QuietGenD X.prog X.w (genEnv scope (cloFrom X.env.cells scope.names []) s₄.heap.objs.size code bi X.env) x [] elt (List.range s₄.heap.objs.size) wr Pf pz F href (X.A.depth + 1) (X.A.units + 8)) ∧
          (∀ a h₅ tk gs, gs.bare = true → s₄.heap.objs.size < a → h₅.objs.size = a + 1 → (∀ b o, s₄.heap.get? b = some o → h₅.get? b = some o) →
            WalksS X.prog X.w X.A.in4 a (a :: s₄.heap.objs.size :: List.range s₄.heap.objs.size) (s₄.heap.objs.size :: wr) (GenOnlyQ s₄.gens.size) (passing pz n₀ 0).length
              (fun j y => ∃ i, (passing pz n₀ 0)[j]? = some i ∧ F i y) (GenAt X.prog X.w X.A.in4 a s₄.gens.size s₄.heap.objs.size (List.range s₄.heap.objs.size) wr pz n₀ F) →
            GenAt X.prog X.w X.A.in4 a s₄.gens.size s₄.heap.objs.size (List.range s₄.heap.objs.size) wr pz n₀ F 0 { s₄ with gens := s₄.gens.push gs, toks := tk, heap := h₅ } →
            Q' (.ref a) { s₄ with gens := s₄.gens.push gs, toks := tk, heap := h₅ })) X.xe s₃) X.xe { s1 with heap := s1.heap.push o } := by
  obtain ⟨ps, hP, ht⟩ := hT
  obtain ⟨hbl, hba⟩ := qevs_at hbs
  have objP : s1.heap.get? P = some { cls := .none, data := .fields ps } := I1.hok P _ hP
  have ltP : P < s1.heap.objs.size := Heap.lt_size objP
  have objP' : (s1.heap.push o).get? P = some { cls := .none, data := .fields ps } := Heap.get?_push_of_some _ objP
  have cd : PySem.W.CodeHd (s1.heap.push o) c P := TB.code.keeps fun b u e => Heap.get?_push_of_some _ (I1.bk b u e)
  have lim : (s1.heap.push o).NoLimit := I1.nolimit.push o
  have go : ∀ (code : Value) (h3 : Heap) (tk : Nat) (ps' : Array Value), Heap.ExtBut P (s1.heap.push o) h3 → (s1.heap.push o).objs.size ≤ h3.objs.size → h3.get? P = some { cls := .none, data := .fields ps' } → (∃ more, ps' = ps ++ more) → TriplesOk ps'.toList →
      wpAny (model X.prog X.w) X.A (builtinsFor X.env.globals X.env.builtins) (fun bi s₄ =>
        ∃ Ia fp wr n₀ Pf St₀ pz F, Value.ref s1.heap.objs.size = .ref Ia ∧ (∀ A' : Around, A'.handled = none → Walks X.prog X.w A' Ia fp wr n₀ Pf St₀) ∧ St₀ 0 s₄.heap ∧ (∀ b ∈ fp, b < s₄.heap.objs.size) ∧ s₄.heap.NoLimit ∧ cStatics ∉ wr ∧
          (∀ href : Heap, (∀ b o, s₄.heap.get? b = some o → href.get? b = some o) →
            QuietGenD X.prog X.w (genEnv scope (cloFrom X.env.cells scope.names []) s₄.heap.objs.size code bi X.env) x [] elt (List.range s₄.heap.objs.size) wr Pf pz F href (X.A.depth + 1) (X.A.units + 8)) ∧
          (∀ a h₅ tk gs, gs.bare = true → s₄.heap.objs.size < a → h₅.objs.size = a + 1 → (∀ b o, s₄.heap.get? b = some o → h₅.get? b = some o) →
            WalksS X.prog X.w X.A.in4 a (a :: s₄.heap.objs.size :: List.range s₄.heap.objs.size) (s₄.heap.objs.size :: wr) (GenOnlyQ s₄.gens.size) (passing pz n₀ 0).length
              (fun j y => ∃ i, (passing pz n₀ 0)[j]? = some i ∧ F i y) (GenAt X.prog X.w X.A.in4 a s₄.gens.size s₄.heap.objs.size (List.range s₄.heap.objs.size) wr pz n₀ F) →
            GenAt X.prog X.w X.A.in4 a s₄.gens.size s₄.heap.objs.size (List.range s₄.heap.objs.size) wr pz n₀ F 0 { s₄ with gens := s₄.gens.push gs, toks := tk, heap := h₅ } →
            Q' (.ref a) { s₄ with gens := s₄.gens.push gs, toks := tk, heap := h₅ })) X.xe { s1 with heap := h3, toks := tk } := by
    intro code h3 tk ps' hx hsz hP3 hmore ht3
    obtain ⟨bm, ob, e1, e2, e3, e4, e5, e6, e7, e8⟩ := TB.bm
    have csP : cStatics ≠ P := fun e => by
      obtain ⟨_, hns, _⟩ := I1.nolimit
      obtain ⟨o', es, ep, ho, hd, _⟩ := hns
      rw [e, objP] at ho
      cases ho
      cases hd
    have csl : cStatics < s1.heap.objs.size := let ⟨_, hns, _⟩ := I1.nolimit; hns.lt
    have sz2 : (s1.heap.push o).objs.size = s1.heap.objs.size + 1 := Heap.size_push ..
    have kept : ∀ b u, b ≠ P → s1.heap.get? b = some u → h3.get? b = some u := fun b u hb e => hx b u hb (Heap.get?_push_of_some _ e)
    refine wpAny_builtinsFor (m := X.mg) (by rw [I1.ok.glob]; exact ((I1.mod.glob.keeps I1.bk).push o).extBut hx TB.gP) e1 e2 (kept _ _ e4 (I1.bk _ _ e5)) e6 e7 e8 ?_
    refine ⟨s1.heap.objs.size, fpI, [s1.heap.objs.size], n, Pf, St, (fun _ => true), (fun i y => ∃ b, bs[i]? = some b ∧ y = .bool b), rfl, W, ?_, ?_, lim.extBut hx csP, ?_, ?_, ?_⟩
    · refine (W X.A hr.hd).frame _ _ _ hst fun b hb u e => hx b u (fun z => ?_) e
      rcases hfp b hb with z2 | z2
      · exact Nat.ne_of_lt ltP (z.symm.trans z2)
      · exact z2.2 z
    · intro b hb
      rcases hfp b hb with z | z
      · exact z ▸ (show s1.heap.objs.size < h3.objs.size by omega)
      · exact Nat.lt_trans z.1 (show s1.heap.objs.size < h3.objs.size by omega)
    · intro z
      rcases List.mem_cons.mp z with z | z
      · exact Nat.ne_of_lt csl z
      · cases z
    · intro href hhref
      refine ⟨fun A' E' i v s₂ m₂ hA _ _ hPv hn hm hk => ?_, fun A' E' i v s₂ m₂ hA hdp hun hPv hp hn hm hk => ?_⟩
      · simp only [List.forIn_nil]
        exact wpAny_pure ⟨rfl, keeps_same _⟩
      · obtain ⟨d, hd, hrd⟩ := hPf i v hPv
        obtain ⟨hlay, b, hb, hqe⟩ := hba i d hd
        -- all that stood at s1 but the table stands
        have old : ∀ b u, b ≠ P → s1.heap.get? b = some u → s₂.heap.get? b = some u := fun b u hb e => by
          have hl := Heap.lt_size e
          refine hk b (List.mem_range.mpr ?_) (fun z => ?_) u (hhref b u (kept b u hb e))
          · exact Nat.lt_trans hl (show s1.heap.objs.size < h3.objs.size by omega)
          · rcases List.mem_cons.mp z with z | z
            · rw [z] at hl; exact Nat.lt_irrefl _ hl
            · cases z
        have oldT : ∀ b ob, s1.heap.get? b = some ob → (ob.cls = .type "list" ∨ ob.cls = .type "tuple" ∨ ob.cls = .type "dict") → s₂.heap.get? b = some ob := fun b ob e hc => old b ob (fun z => by
          subst z
          rw [objP] at e
          cases e
          rcases hc with hc | hc | hc <;> cases hc) e
        have st : QSt (genEnv scope (cloFrom X.env.cells scope.names []) h3.objs.size code builtinsNs X.env) X.N x ρ d s₂ := by
          refine ⟨⟨m₂, v, hn, hm, hrd hlay s₂ oldT⟩, fun j y e h1 h2 h3' h4 => ?_⟩
          obtain ⟨vv, g1, g2⟩ := hF j y e h1 h2 h3' h4
          have hcl := hfr y h2
          obtain ⟨mm, hns, hl⟩ := I1.loc
          obtain ⟨u, ru, lk⟩ := hl j y vv h1 g1 (.inr (.inl hcl))
          rcases lk with ⟨lk, _⟩ | ⟨_, ca, hca, oc, hoc, hdc⟩
          · have lk' : X.env.scope.names.lookup y = some .local := lk
            rw [hcl] at lk'
            cases lk'
          · have hcP : ca ≠ P := fun z => by
              subst z
              rw [objP] at hoc
              cases hoc
              cases hdc
            obtain ⟨as, r⟩ := Dp.reads I1 e vv u g2 ru
            exact ⟨ca, u, clo_at (lookup_mem h2) hca, ⟨oc, old ca oc hcP hoc, hdc⟩, as, reads_mono oldT r⟩
        have hun2 : A'.units + 65 < cLine := by
          have := hr.un
          omega
        exact q_ok S.kind hun2 S.loc q elt (.bool b) s₂ _ E' hel hqe st fun y s3 k3 r3 => by
          obtain ⟨_, r3⟩ := r3
          cases r3
          exact ⟨⟨b, hb, rfl⟩, k3⟩
    · intro g h5 tk5 gs hgb hag hsz5 hk5 W5 hat
      have hlen : (passing (fun _ => true) n 0).length = bs.length := by rw [GxR.passing_true, List.length_range, hn, hbl]
      rw [hlen] at W5
      refine hQ g _ ⟨_, _, _, _, _, W5.in4_1, hat, ?_, fun s' hm => ?_⟩
      · intro j y sj Qj Ej hy hQj
        obtain ⟨i, hij, b, hb, rfl⟩ := hy
        rw [GxR.passing_true] at hij
        obtain ⟨hj, ej⟩ := List.getElem?_eq_some_iff.mp hij
        rw [List.getElem_range] at ej
        subst ej
        have hQ2 : Qj (bs.getD j false) sj := hQj
        rw [List.getD_eq_getElem?_getD, hb] at hQ2
        exact wpAny_truthy_bool hQ2
      · obtain ⟨more, em⟩ := hmore
        have nwr : ∀ b u, s1.heap.get? b = some u → b ∉ h3.objs.size :: [s1.heap.objs.size] := fun b u e hb => by
          have hl := Heap.lt_size e
          rcases List.mem_cons.mp hb with z | z
          · rw [z] at hl
            have h9 : (h3.objs.size : Nat) < s1.heap.objs.size := hl
            omega
          · rcases List.mem_cons.mp z with z | z
            · rw [z] at hl
              exact Nat.lt_irrefl _ hl
            · cases z
        have J := inv_tab (more := more) (h' := s'.heap) (g' := s'.gens) (d' := s'.drawn) (t' := s'.toks) I1 hP (fun b u hb e => hm.heap b u (nwr b u e) (hk5 b u (kept b u hb e)))
          (by rw [← em]; exact hm.heap P _ (nwr P _ objP) (hk5 P _ hP3)) (AllBare.movedS (I1.bare.push hgb) hm)
        rw [sh_eta s1 s' hm.os] at J
        exact ⟨upd H1 P (.tbl (ps ++ more)), ⟨⟨ps ++ more, upd_same, by rw [← em]; exact ht3⟩, fun b hb => upd_ne hb⟩, J⟩
  refine ⟨lim, ?_⟩
  cases hf : codeAmong gpos ps.toList with
  | none =>
    refine wpAny_genexprCodeX hcode (cd.code objP' ht) (cd.tab objP') hf fun c' h' tk hx hge hlt hco' _ htab' _ => ?_
    obtain ⟨o1, vs, f1, tf, fl, tg, inF, tx, tt, op, _, _, _, _, _, _, _, _, _, htr, _⟩ := hco'
    exact go _ h' tk _ hx (Nat.le_trans hge (Nat.le_of_lt hlt)) htab'.2 ⟨_, rfl⟩ htr
  | some cv =>
    refine wpAny_genexprCode_hit hcode (cd.code objP' ht) hf ?_
    exact go cv (s1.heap.push o) s1.toks ps (Heap.ExtBut.refl _ _) (Nat.le_refl _) objP' ⟨#[], by simp⟩ ht
theorem readsAll_val {h : Heap} : ∀ {vs : List Value} {ds : List D} {as : List Addr} {j : Nat} {v : Value}, ReadsAll h vs ds as → vs[j]? = some v → ∃ d, ds[j]? = some d ∧ Rd h v d
  | _, _, _, 0, _, .cons a b, e => by
    cases e
    exact ⟨_, rfl, _, a⟩
  | _, _, _, j + 1, _, .cons a b, e => readsAll_val (j := j) b e
def qn (al : Bool) : Str := if al then "all" else "any"
/-- any, all of the tests at each item of a list or tuple -/
def tQ (al : Bool) (K : PySem.W.Frag) (N : List Str) (names : List (Str × NameKind)) (q : QE) (P : Addr) (te : TE) : TE := fun σ H Q => te σ H fun v H1 => ∃ (ρ : Eng.Env) (a : Addr) (xs : List V) (ds : List D) (bs : List Bool), v = .ref a ∧ (SqL K H1 a xs ∨ SqT K H1 a xs) ∧ DpAll K H1 xs ds ∧
  qevs ρ q ds = some bs ∧ FreeOk K N names ρ σ H1 ∧ TabG H1 P ∧ ∀ H2, Tabbed P H1 H2 → Q (.bl (if al then bs.all id else bs.any id)) H2
theorem gen_seq {c P : Addr} {elt iter : Expr} {x : Str} {px gpos : Pos} {scope : Scope} {q : QE} {te : TE} {k : Nat} {Q' : Value → Shared → Prop} {R : List Bool → Hp → Prop}
    (hr : Room k X.A) (TB : TabB X.base X.mg c P) (hcode : X.env.code = .ref c) (hg : X.env.kindOf x = X.env.kindOf x) (hkind : scope.kind = .function) (hco : scope.isCoroutine = false) (hcell : ∀ y ∈ scope.names, y.2 ≠ .cell) (hdot : scope.names.lookup (".0" : Str) = some NameKind.local) (hloc : scope.names.lookup x = some .local)
    (hfree : ∀ y ∈ scope.names, y.2 = .free → X.env.scope.names.lookup y.1 = some .cell) (hi : PE X iter te) (hel : chkQ X.N scope.names x q elt = true) (hs : ∀ v, genFold iter X.env v = pure v) (I : Inv X pins σ H s)
    (h : te σ H fun v H1 => ∃ (ρ : Eng.Env) (a : Addr) (xs : List V) (ds : List D) (bs : List Bool), v = .ref a ∧ (SqL X.K H1 a xs ∨ SqT X.K H1 a xs) ∧ DpAll X.K H1 xs ds ∧ qevs ρ q ds = some bs ∧ FreeOk X.K X.N scope.names ρ σ H1 ∧ TabG H1 P ∧ R bs H1)
    (hQ : ∀ bs H1 g s5, R bs H1 → GReady X pins σ H1 P bs g s5 → Q' (.ref g) s5) :
    wpAny (model X.prog X.w) X.A (eval (.GeneratorExp elt [⟨.Name x px, iter, [], 0⟩] scope gpos) X.env) Q' X.xe s := by
  have S : GenS X.env scope x := ⟨hkind, hco, hcell, hdot, hloc, fun y hy e => I.ok.has y.1 (.inl (hfree y hy e))⟩
  refine wpAny_GeneratorExp_walksQD hr.hd S.co (closure_ok S.free) S.cell S.dot S.loc S.kind (by have := hr.dp; omega) ?_ hs
  refine thn (hi.run pins s σ H _ I h) fun xv s1 ⟨v, H1, I1, r1, q1⟩ => ?_
  obtain ⟨ρ, a, xs, ds, bs, rfl, hq, hd, hbs, hF, hT, hR⟩ := q1
  cases r1
  have hne : a ≠ s1.heap.objs.size := fun z => by
    rcases hq with hq | hq
    · obtain ⟨its, rv, pl, _⟩ := I1.list hq
      obtain ⟨o, _, ho, _⟩ := pl
      have := Heap.lt_size (by first | exact ho | exact ‹s1.heap.get? a = some _›)
      rw [z] at this
      exact Nat.lt_irrefl _ this
    · obtain ⟨its, rv, pl, _⟩ := I1.tuple hq
      obtain ⟨o, ho, _⟩ := pl
      have := Heap.lt_size ho
      rw [z] at this
      exact Nat.lt_irrefl _ this
  have hneP : a ≠ P := fun z => by
    obtain ⟨ps, hP, _⟩ := hT
    have objP : s1.heap.get? P = some { cls := .none, data := .fields ps } := I1.hok P _ hP
    rcases hq with hq | hq
    · obtain ⟨its, rv, pl, _⟩ := I1.list hq
      obtain ⟨o, ho, hc, _⟩ := pl.isList
      rw [z, objP] at ho
      cases ho
      cases hc
    · obtain ⟨its, rv, pl, _⟩ := I1.tuple hq
      obtain ⟨o, ho, hc, _⟩ := pl
      rw [z, objP] at ho
      cases ho
      cases hc
  have hlt : a < s1.heap.objs.size := by
    rcases hq with hq | hq
    · obtain ⟨its, rv, pl, _⟩ := I1.list hq
      obtain ⟨o, ho, _⟩ := pl.isList
      exact Heap.lt_size ho
    · obtain ⟨its, rv, pl, _⟩ := I1.tuple hq
      obtain ⟨o, ho, _⟩ := pl
      exact Heap.lt_size ho
  have fpOk : ∀ b ∈ [s1.heap.objs.size, a], b = s1.heap.objs.size ∨ (b < s1.heap.objs.size ∧ b ≠ P) := fun b hb => by
    rcases List.mem_cons.mp hb with z | z
    · exact .inl z
    · rw [List.mem_singleton.mp z]
      exact .inr ⟨hlt, hneP⟩
  have hfr : ∀ y, scope.names.lookup y = some .free → X.env.scope.names.lookup y = some .cell := fun y e => hfree (y, .free) (lookup_mem e) rfl
  rcases hq with hq | hq
  · obtain ⟨its, rv, pl, hz⟩ := I1.list hq
    obtain ⟨as, hra⟩ := Dp.readsAll I1 ds xs its hd rv
    refine wpAny_pyIter_list pl.isList ?_
    refine gen_core hr TB hcode S hel hfr I1 hT hbs hF (n := its.toArray.size) (fun A' hh => Walks.list hh _ a hne its.toArray) ?_ ?_ fpOk (fun i v hv => ?_) fun g s5 hG => hQ bs H1 g s5 hR hG
    · exact ⟨⟨_, Heap.get?_push_size _ rfl, rfl, rfl⟩, by
        obtain ⟨o, ho, r⟩ := pl.isList
        exact ⟨o, Heap.get?_push_of_some _ ho, r⟩⟩
    · rw [List.size_toArray]; exact readsAll_len hra
    · have hv' : its[i]? = some v := by simpa using hv
      obtain ⟨d, e, as', hrd⟩ := readsAll_val hra hv'
      exact ⟨d, e, fun _ s2 k2 => ⟨as', reads_mono k2 hrd⟩⟩
  · obtain ⟨its, rv, pl, hz⟩ := I1.tuple hq
    obtain ⟨as, hra⟩ := Dp.readsAll I1 ds xs its hd rv
    refine wpAny_pyIter_tuple pl ?_
    refine gen_core hr TB hcode S hel hfr I1 hT hbs hF (n := its.toArray.size) (fun A' hh => Walks.tuple hh _ a hne its.toArray) ?_ ?_ fpOk (fun i v hv => ?_) fun g s5 hG => hQ bs H1 g s5 hR hG
    · exact ⟨⟨_, Heap.get?_push_size _ rfl, rfl, rfl⟩, by
        obtain ⟨o, ho, r⟩ := pl
        exact ⟨o, Heap.get?_push_of_some _ ho, r⟩⟩
    · rw [List.size_toArray]; exact readsAll_len hra
    · have hv' : its[i]? = some v := by simpa using hv
      obtain ⟨d, e, as', hrd⟩ := readsAll_val hra hv'
      exact ⟨d, e, fun _ s2 k2 => ⟨as', reads_mono k2 hrd⟩⟩
theorem any_getD (bs : List Bool) : (List.range bs.length).any (fun j => bs.getD j false) = bs.any id := by
  rw [Bool.eq_iff_iff, List.any_eq_true, List.any_eq_true]
  constructor
  · rintro ⟨j, hj, h⟩
    have hj := List.mem_range.mp hj
    rw [List.getD_eq_getElem?_getD, List.getElem?_eq_getElem hj] at h
    exact ⟨bs[j], List.getElem_mem hj, h⟩
  · rintro ⟨b, hb, h⟩
    obtain ⟨j, hj, rfl⟩ := List.getElem_of_mem hb
    exact ⟨j, List.mem_range.mpr hj, by rw [List.getD_eq_getElem?_getD, List.getElem?_eq_getElem hj]; exact h⟩
theorem all_getD (bs : List Bool) : (List.range bs.length).all (fun j => bs.getD j false) = bs.all id := by
  rw [Bool.eq_iff_iff, List.all_eq_true, List.all_eq_true]
  constructor
  · intro h b hb
    obtain ⟨j, hj, rfl⟩ := List.getElem_of_mem hb
    have := h j (List.mem_range.mpr hj)
    rw [List.getD_eq_getElem?_getD, List.getElem?_eq_getElem hj] at this
    exact this
  · intro h j hj
    have hj := List.mem_range.mp hj
    rw [List.getD_eq_getElem?_getD, List.getElem?_eq_getElem hj]
    exact h _ (List.getElem_mem hj)
theorem pe_quant {al : Bool} {c P : Addr} {elt iter : Expr} {x : Str} {px p pos gpos : Pos} {scope : Scope} {q : QE} {te : TE} {k : Nat}
    (hr : Room k X.A) (hg : Gl X (qn al)) (hm : X.mg (qn al) = none) (TB : TabB X.base X.mg c P) (hcode : X.env.code = .ref c) (hkind : scope.kind = .function) (hco : scope.isCoroutine = false) (hcell : ∀ y ∈ scope.names, y.2 ≠ .cell) (hdot : scope.names.lookup (".0" : Str) = some NameKind.local) (hloc : scope.names.lookup x = some .local)
    (hfree : ∀ y ∈ scope.names, y.2 = .free → X.env.scope.names.lookup y.1 = some .cell) (hi : PE X iter te) (hel : chkQ X.N scope.names x q elt = true) (hs : ∀ v, genFold iter X.env v = pure v) :
    PE X (.Call (.Name (qn al) p) [.GeneratorExp elt [⟨.Name x px, iter, [], 0⟩] scope gpos] [] pos) (tQ al X.K X.N scope.names q P te) := by
  have he : starEach [.GeneratorExp elt [⟨.Name x px, iter, [], 0⟩] scope gpos] X.env = (false, eval (.GeneratorExp elt [⟨.Name x px, iter, [], 0⟩] scope gpos) X.env) :: starEach [] X.env := rfl
  cases al with
  | false =>
    refine ⟨fun pins s σ H Q I h => ?_⟩
    refine wpAny_Call_Name_kw (ld_blt I hg hm (show bootBuiltins (qn false) = some (.builtin "any") by decide +kernel) ?_ (by decide) (by decide))
    refine PyProof.Rows.callWith_builtin1 ?_ he (by rfl)
    rw [he]
    show wpAny _ _ (spliced ((false, eval (.GeneratorExp elt [⟨.Name x px, iter, [], 0⟩] scope gpos) X.env) :: backTo pos (starEach [] X.env))) _ _ s
    refine Calls.spliced_cons (gen_seq (R := fun bs H1 => ∀ H2, Tabbed P H1 H2 → Q (.bl (bs.any id)) H2) hr TB hcode rfl hkind hco hcell hdot hloc hfree hi hel hs I h fun bs H1 g s5 hR hG => ?_)
    obtain ⟨fp, wr, G, F, St, W, hst, htr, hI⟩ := hG
    refine Calls.spliced_nil ?_
    refine call_any_walkS (W.self 0 _ _ _ hst ⟨g, fp, wr, G, _, F, St, _, rfl, W, hst, htr, fun s' hmv => ?_⟩)
    obtain ⟨H2, hT, J⟩ := hI s' hmv
    refine ⟨.bl _, H2, J, rfl, ?_⟩
    rw [any_getD]
    exact hR H2 hT
  | true =>
    refine ⟨fun pins s σ H Q I h => ?_⟩
    refine wpAny_Call_Name_kw (ld_blt I hg hm (show bootBuiltins (qn true) = some (.builtin "all") by decide +kernel) ?_ (by decide) (by decide))
    refine PyProof.Rows.callWith_builtin1 ?_ he (by rfl)
    rw [he]
    show wpAny _ _ (spliced ((false, eval (.GeneratorExp elt [⟨.Name x px, iter, [], 0⟩] scope gpos) X.env) :: backTo pos (starEach [] X.env))) _ _ s
    refine Calls.spliced_cons (gen_seq (R := fun bs H1 => ∀ H2, Tabbed P H1 H2 → Q (.bl (bs.all id)) H2) hr TB hcode rfl hkind hco hcell hdot hloc hfree hi hel hs I h fun bs H1 g s5 hR hG => ?_)
    obtain ⟨fp, wr, G, F, St, W, hst, htr, hI⟩ := hG
    refine Calls.spliced_nil ?_
    refine call_all_walkS (W.self 0 _ _ _ hst ⟨g, fp, wr, G, _, F, St, _, rfl, W, hst, htr, fun s' hmv => ?_⟩)
    obtain ⟨H2, hT, J⟩ := hI s' hmv
    refine ⟨.bl _, H2, J, rfl, ?_⟩
    rw [all_getD]
    exact hR H2 hT
end
end Eng

end
section
set_option Elab.async false
set_option linter.all false
set_option maxRecDepth 100000
set_option maxHeartbeats 4000000
set_option autoImplicit false
/-! Qt, part C: the reading of any, all of a generator expression. -/
namespace Eng
open PySem PySem.Spec PyProof.Rows L2 GxR
section
variable {K : PySem.W.Frag} {G : Gh} {cl : Calls} {gl : List D} {ρ : Eng.Env} {sa : SA} {σ : L2.St} {F H H2 : Hp} {st : Sta}
/-- a table has grown -/
theorem Rep.tabbed {P : Addr} (R : Rep K G ρ sa σ F H st) (hP : P ∈ sa.tb) (t : Tabbed P H H2) : Stp K G ρ sa σ F H F H2 st := by
  obtain ⟨t1, t2⟩ := t
  obtain ⟨nF, ps, hps, _⟩ := R.sta.2 P hP
  have nl : ∀ {b : Addr} {u : HO}, H b = some u → (∀ qs, u ≠ .tbl qs) → b ≠ P := fun e n z => by
    rw [z, hps] at e
    exact n _ (Option.some.inj e).symm
  have nF' : ∀ {b : Addr} {u : HO}, F b = some u → b ≠ P := fun e z => by
    rw [z, nF] at e
    cases e
  have nx : ∀ {b : Addr}, ¬ exA sa b → b ≠ P := fun n z => n (z ▸ .inr hP)
  refine ⟨⟨fun b u e => by rw [t2 b (nF' e)]; exact R.sub b u e, fun i s e => ?_, R.len, R.dis, R.own, ⟨?_, fun P' hP' => ?_⟩, fun b u nb e => by rw [t2 b (nx nb)]; exact R.base b u nb e, R.new, R.sub0, R.sa0, R.saf⟩, Sub.refl, fun b u nb e => by rw [t2 b (nx nb)]; exact e, fun b e => .inl e⟩
  · have q := R.slots i s e
    cases s with
    | emp => trivial
    | val d => exact q
    | lst ds =>
      obtain ⟨a, xs, h1, h2, h3⟩ := q
      exact ⟨a, xs, h1, by rw [t2 a (nl h2 fun qs z => by cases z)]; exact h2, h3⟩
    | dic ds =>
      obtain ⟨a, xs, h1, h2, h3⟩ := q
      exact ⟨a, xs, h1, by rw [t2 a (nl h2 fun qs z => by cases z)]; exact h2, h3⟩
  · have q := R.sta.1
    match hs : sa.st, st, q with
    | some (a, c), some (cells, seed), q =>
      obtain ⟨h1, h2, h3, h4, h5⟩ := q
      exact ⟨h1, h2, h3, by rw [t2 a (nl h4 fun qs z => by cases z)]; exact h4, by rw [t2 c (nl h5 fun qs z => by cases z)]; exact h5⟩
    | none, none, _ => trivial
    | some _, none, q => exact q.elim
    | none, some _, q => exact q.elim
  · obtain ⟨g1, g2⟩ := R.sta.2 P' hP'
    refine ⟨g1, ?_⟩
    by_cases z : P' = P
    · rw [z]; exact t1
    · obtain ⟨qs, e1, e2⟩ := g2
      exact ⟨qs, by rw [t2 P' z]; exact e1, e2⟩
theorem lay_all {q : QE} : ∀ {ds : List D} {bs : List Bool}, qevs ρ q ds = some bs → PyData.canLayAll0 ds = true
  | [], _, _ => by simp only [PyData.canLayAll0]
  | d :: ds, bs, h => by
    unfold qevs at h
    split at h
    · rename_i b bs' h1 h2 h3
      simp only [PyData.canLayAll0, h1, lay_all h3, Bool.and_self]
    · cases h
theorem T_quant {al o : Bool} {e : E} {q : QE} {Pt : Addr} {N : List Str} {names : List (Str × NameKind)} {Q : VK} (hP : Pt ∈ G.sa.tb) : T K G cl gl o (.quant al (.seq e) q) σ H Q → tQ al K N names q Pt (T K G cl gl true e) σ H Q := by
  rintro ⟨ρ, sa, F, st, R, p⟩
  simp only [ev, evIt] at p
  refine ⟨ρ, sa, F, st, R, (P.bind (P.bind p)).imp fun d st1 F1 H1 s1 p1 x hx => ?_⟩
  obtain ⟨ds, hds, p2, _⟩ := P.of p1 s1.rep
  obtain ⟨r, hr, _, p3⟩ := P.of p2 s1.rep
  rw [Option.map_eq_some_iff] at hr
  obtain ⟨bs, hbs, rfl⟩ := hr
  have R1 := s1.rep
  have hP' : Pt ∈ sa.tb := by rw [R.tbq]; exact hP
  have src : ∃ a xs, x = .ref a ∧ (SqL K H1 a xs ∨ SqT K H1 a xs) ∧ RpA K sa F1 xs ds := by
    unfold seqD at hds
    split at hds
    · cases hds
      obtain ⟨a, xs, e1, e2, e3⟩ := hx.list R1.sub
      exact ⟨a, xs, e1, .inl (SqL.of e2), e3⟩
    · cases hds
      obtain ⟨a, xs, e1, e2, e3⟩ := hx.tuple R1.sub
      exact ⟨a, xs, e1, .inr e2, e3⟩
    · cases hds
  obtain ⟨a, xs, rfl, hq, ra⟩ := src
  refine ⟨ρ, a, xs, ds, bs, rfl, hq, ra.dp R1.sub (lay_all hbs), hbs, fun i y d' _ _ h3 h4 => ?_, (R1.sta.2 Pt hP').2, fun H2 t => ?_⟩
  · obtain ⟨v, g1, g2⟩ := R1.slots i _ h3
    exact ⟨v, g1, g2.dp R1.sub h4⟩
  · exact p3 _ _ (R1.tabbed hP' t) _ (.inl (.bl _))
end
end Eng

end
section
set_option Elab.async false
set_option linter.all false
set_option maxRecDepth 100000
set_option maxHeartbeats 4000000
set_option autoImplicit false
/-! Dis, part A: sorted(set(t)) of a tuple of ints; displays of dicts. -/
namespace Eng
open PySem PySem.Spec PyProof.Rows L2

/-! ### sorted(set(t)) -/
theorem mem_dedupL {x : Int} : ∀ {l : List Int}, x ∈ dedupL l ↔ x ∈ l
  | [] => Iff.rfl
  | y :: l => by
    unfold dedupL
    have ih := mem_dedupL (x := x) (l := l)
    split
    · rename_i h
      rw [ih, List.mem_cons]
      exact ⟨.inr, fun z => z.elim (fun e => e ▸ h) id⟩
    · rw [List.mem_cons, List.mem_cons, ih]
theorem nodup_dedupL : ∀ l : List Int, (dedupL l).Nodup
  | [] => List.nodup_nil
  | y :: l => by
    unfold dedupL
    split
    · exact nodup_dedupL l
    · rename_i h
      exact List.nodup_cons.mpr ⟨fun z => h (mem_dedupL.mp z), nodup_dedupL l⟩
/-- set(t), t a tuple of ints -/
def rSetTI (K : PySem.W.Frag) (w : World) : List V → Hp → VK → Prop := fun vs H Q => ∃ (p : Addr) (ns : List Int), vs = [V.ref p] ∧ SqT K H p (ns.map V.int) ∧ ns.length ≤ 1000 ∧
  ∀ (q : Addr) (c : Nat), H q = none → c ≤ ns.length → Q (.ref q) (upd H q (SetO w q (fun j => decide (j ∈ ns)) c))
theorem cr_setTI {X : Cx} (hc : X.calm = true) : CallR X (.type "set") (rSetTI X.K X.w) := by
  intro pins s σ H vs us Q I r h
  obtain ⟨p, ns, rfl, ht, hl, q⟩ := h
  cases r with
  | cons r rr =>
    cases rr
    cases r
    obtain ⟨its, rv, pt, _⟩ := I.tuple ht
    have hi : IntsAre its.toArray.toList ns := ints_of_vals rv
    refine call_set_tupI ns (I.ok.hd hc) (show s.heap.IsTuple p its.toArray from pt) hi (by unfold scanBound; omega) fun h' tk c R1 hcn k => ?_
    exact ⟨.ref _, upd H s.heap.objs.size (SetO X.w s.heap.objs.size (fun j => decide (j ∈ ns)) c), I.laid (t' := tk) k (Nat.le_refl _) (setO_new R1), rfl, q _ c (I.hok.fresh (Nat.le_refl _)) hcn⟩
theorem sorted_ext : ∀ {a b : List Int}, a.Pairwise (· < ·) → b.Pairwise (· < ·) → (∀ x, x ∈ a ↔ x ∈ b) → a = b
  | [], [], _, _, _ => rfl
  | [], y :: ys, _, _, h => by cases (h y).mpr (List.mem_cons_self ..)
  | x :: xs, [], _, _, h => by cases (h x).mp (List.mem_cons_self ..)
  | x :: xs, y :: ys, ha, hb, h => by
    obtain ⟨a1, a2⟩ := List.pairwise_cons.mp ha
    obtain ⟨b1, b2⟩ := List.pairwise_cons.mp hb
    have e : x = y := by
      rcases List.mem_cons.mp ((h x).mp (List.mem_cons_self ..)) with z | z
      · exact z
      · rcases List.mem_cons.mp ((h y).mpr (List.mem_cons_self ..)) with w | w
        · exact w.symm
        · have := a1 _ w
          have := b1 _ z
          omega
    subst e
    rw [sorted_ext a2 b2 fun z => ?_]
    constructor
    · intro hz
      rcases List.mem_cons.mp ((h z).mp (List.mem_cons_of_mem _ hz)) with w | w
      · have := a1 z hz; omega
      · exact w
    · intro hz
      rcases List.mem_cons.mp ((h z).mpr (List.mem_cons_of_mem _ hz)) with w | w
      · have := b1 z hz; omega
      · exact w
theorem lt_ssetL (ns : List Int) : (ssetL ns).Pairwise (· < ·) := by
  have h1 := isort_sorted (dedupL ns)
  have h2 : (isort (dedupL ns)).Nodup := (isort_perm _).nodup_iff.mpr (nodup_dedupL ns)
  exact (h1.and h2).imp fun ⟨a, b⟩ => by omega
theorem mem_ssetL {ns : List Int} {x : Int} : x ∈ ssetL ns ↔ x ∈ ns := ((isort_perm (dedupL ns)).mem_iff).trans mem_dedupL
/-! pairs -/
theorem ltP_irr (p : Int × Int) : ltP p p = false := decide_eq_false (by omega)
theorem ltP_trans {p q r : Int × Int} (h1 : ltP p q = true) (h2 : ltP q r = true) : ltP p r = true := by
  unfold ltP at *
  rw [decide_eq_true_eq] at *
  omega
theorem ltP_or (p q : Int × Int) : ltP p q = true ∨ p = q ∨ ltP q p = true := by
  unfold ltP
  rw [decide_eq_true_eq, decide_eq_true_eq]
  by_cases h : p.1 = q.1
  · by_cases h2 : p.2 = q.2
    · exact .inr (.inl (Prod.ext h h2))
    · omega
  · omega
theorem mem_insP {p x : Int × Int} : ∀ {l : List (Int × Int)}, x ∈ insP p l ↔ x = p ∨ x ∈ l
  | [] => by simp [insP]
  | q :: l => by
    unfold insP
    split
    · simp
    · split
      · rename_i h
        subst h
        simp
      · rw [List.mem_cons, mem_insP (l := l), List.mem_cons]
        exact ⟨fun z => z.elim (fun e => .inr (.inl e)) fun z => z.elim .inl fun e => .inr (.inr e), fun z => z.elim (fun e => .inr (.inl e)) fun z => z.elim .inl fun e => .inr (.inr e)⟩
theorem pw_insP {p : Int × Int} : ∀ {l : List (Int × Int)}, l.Pairwise (fun a b => ltP a b = true) → (insP p l).Pairwise (fun a b => ltP a b = true)
  | [], _ => List.pairwise_singleton ..
  | q :: l, h => by
    obtain ⟨h1, h2⟩ := List.pairwise_cons.mp h
    unfold insP
    split
    · rename_i lt
      exact List.pairwise_cons.mpr ⟨fun x hx => by
        rcases List.mem_cons.mp hx with rfl | hx
        · exact lt
        · exact ltP_trans lt (h1 x hx), h⟩
    · rename_i nlt
      split
      · exact h
      · rename_i ne
        refine List.pairwise_cons.mpr ⟨fun x hx => ?_, pw_insP h2⟩
        rcases mem_insP.mp hx with rfl | hx
        · exact (ltP_or x q).resolve_left nlt |>.resolve_left ne
        · exact h1 x hx
theorem mem_ssetP {x : Int × Int} : ∀ {ps : List (Int × Int)}, x ∈ ssetP ps ↔ x ∈ ps
  | [] => Iff.rfl
  | p :: ps => by
    show x ∈ insP p (ssetP ps) ↔ _
    rw [mem_insP, mem_ssetP (ps := ps), List.mem_cons]
theorem pw_ssetP : ∀ (ps : List (Int × Int)), (ssetP ps).Pairwise (fun a b => ltP a b = true)
  | [] => List.Pairwise.nil
  | p :: ps => pw_insP (pw_ssetP ps)
theorem sorted_extP : ∀ {a b : List (Int × Int)}, a.Pairwise (fun a b => ltP a b = true) → b.Pairwise (fun a b => ltP a b = true) → (∀ x, x ∈ a ↔ x ∈ b) → a = b
  | [], [], _, _, _ => rfl
  | [], y :: ys, _, _, h => by cases (h y).mpr (List.mem_cons_self ..)
  | x :: xs, [], _, _, h => by cases (h x).mp (List.mem_cons_self ..)
  | x :: xs, y :: ys, ha, hb, h => by
    obtain ⟨a1, a2⟩ := List.pairwise_cons.mp ha
    obtain ⟨b1, b2⟩ := List.pairwise_cons.mp hb
    have irr : ∀ {p : Int × Int}, ltP p p = true → False := fun {p} z => by rw [ltP_irr] at z; cases z
    have e : x = y := by
      rcases List.mem_cons.mp ((h x).mp (List.mem_cons_self ..)) with z | z
      · exact z
      · rcases List.mem_cons.mp ((h y).mpr (List.mem_cons_self ..)) with w | w
        · exact w.symm
        · exact (irr (ltP_trans (a1 _ w) (b1 _ z))).elim
    subst e
    rw [sorted_extP a2 b2 fun z => ?_]
    constructor
    · intro hz
      rcases List.mem_cons.mp ((h z).mp (List.mem_cons_of_mem _ hz)) with w | w
      · subst w; exact (irr (a1 _ hz)).elim
      · exact w
    · intro hz
      rcases List.mem_cons.mp ((h z).mpr (List.mem_cons_of_mem _ hz)) with w | w
      · subst w; exact (irr (b1 _ hz)).elim
      · exact w
theorem map_back {α β : Type} {f : α → β} {k : List α} : ∀ (l : List β), (∀ q ∈ l, ∃ a ∈ k, q = f a) → ∃ m : List α, l = m.map f ∧ ∀ a ∈ m, a ∈ k
  | [], _ => ⟨[], rfl, fun _ h => by cases h⟩
  | q :: l, h => by
    obtain ⟨a, ha, e⟩ := h q (List.mem_cons_self ..)
    obtain ⟨m, e2, hm⟩ := map_back l fun x hx => h x (List.mem_cons_of_mem _ hx)
    refine ⟨a :: m, by rw [List.map_cons, ← e, ← e2], fun x hx => ?_⟩
    rcases List.mem_cons.mp hx with rfl | hx
    · exact ha
    · exact hm x hx
section
variable {K : PySem.W.Frag} {G : Gh} {cl : Calls} {gl : List D} {σ : L2.St} {F H : Hp} {o : Bool}
def asL (k : Addr × Int × Int) : Addr × List Int := (k.1, [k.2.1, k.2.2])
theorem RpA.pairs {sa : SA} : ∀ {vs : List V} {ds : List D} {ps : List (Int × Int)}, RpA K sa F vs ds → pairsD ds = some ps →
    ∃ k : List (Addr × Int × Int), vs = k.map (fun q => V.ref q.1) ∧ k.map (·.2) = ps ∧ ∀ q ∈ k, Rp K sa F (.ref q.1) (pairD q.2) ∧ (0 ≤ q.2.1 ∧ q.2.1 < 64) ∧ 0 ≤ q.2.2 ∧ q.2.2 < 64
  | _, [], ps, r, h => by
    cases r
    cases h
    exact ⟨[], rfl, rfl, fun _ z => by cases z⟩
  | _, d :: ds, ps, r, h => by
    cases r with
    | @cons v vs d ds r1 r2 =>
      unfold pairsD at h
      split at h
      · cases ‹d :: ds = []›
      · rename_i a b ds' e
        cases e
        split at h
        · rename_i hb
          cases q : pairsD ds with
          | none => rw [q] at h; cases h
          | some ps' =>
            rw [q] at h
            cases h
            obtain ⟨k, e1, e2, e3⟩ := RpA.pairs r2 q
            obtain ⟨p, hp⟩ : ∃ p, v = V.ref p := by
              cases r1 with
              | tup _ _ => exact ⟨_, rfl⟩
              | tupK _ _ => exact ⟨_, rfl⟩
            rw [hp] at r1 ⊢
            refine ⟨(p, a, b) :: k, by rw [List.map_cons, ← e1], by rw [List.map_cons, e2], fun q hq => ?_⟩
            rcases List.mem_cons.mp hq with rfl | hq
            · exact ⟨r1, ⟨hb.1, hb.2.1⟩, hb.2.2⟩
            · exact e3 q hq
        · cases h
      · cases h
theorem Rp.pairT {sa : SA} {p : Addr} {a b : Int} (s : Sub F H) (h : Rp K sa F (.ref p) (pairD (a, b))) : SqT K H p ([a, b].map V.int) := by
  obtain ⟨p', xs, e, h1, h2⟩ := Rq.tuple (H := H) (o := false) (.inl h) s
  cases e
  rw [h2.ints (ns := [a, b]) rfl] at h1
  exact h1
theorem RpA.of_all {sa : SA} : ∀ {m : List (Addr × Int × Int)}, (∀ q ∈ m, Rp K sa F (.ref q.1) (pairD q.2)) → RpA K sa F (m.map fun q => V.ref q.1) ((m.map (·.2)).map pairD)
  | [], _ => .nil
  | q :: m, h => .cons (h q (List.mem_cons_self ..)) (RpA.of_all fun x hx => h x (List.mem_cons_of_mem _ hx))
/-- sorted(set(a)): of a tuple of ints, or of a list of pairs -/
theorem T_sset {a : E} {Q : VK} (pr : Program) (w : World) : T K G cl gl o (.sset a) σ H Q →
    tCB (rSortedSet w) (tCons (tCB (rSetTI K w) (tCons (T K G cl gl true a) tNil)) tNil) σ H Q ∨ tCB (rSortedT K pr w) (tCons (tCB (rSetOfT K pr w) (tCons (T K G cl gl true a) tNil)) tNil) σ H Q := by
  rintro ⟨ρ, sa, F, st, R, p⟩
  simp only [ev] at p
  by_cases hl : ∃ xs st', ev cl gl ρ true a st = .ok (.list xs) st'
  · obtain ⟨xs0, st', hl⟩ := hl
    refine .inr ⟨ρ, sa, F, st, R, (P.self (P.bind p)).imp fun d st1 F1 H1 s1 z x hx => ?_⟩
    obtain ⟨hd, p1⟩ := z
    rw [hl] at hd
    cases hd
    obtain ⟨r, hr, _, p2⟩ := P.of p1 s1.rep
    have R1 := s1.rep
    simp only [ssetD] at hr
    rw [Option.bind_eq_some_iff] at hr
    obtain ⟨ps, hps, hr⟩ := hr
    split at hr
    · rename_i hlen
      cases hr
      obtain ⟨b, vs, rfl, e2, e3⟩ := hx.list R1.sub
      obtain ⟨k, k1, k2, k3⟩ := e3.pairs hps
      have kl : k.length = ps.length := by rw [← k2, List.length_map]
      refine ⟨b, k.map asL, rfl, .inl (.inl ?_), fun q hq => ?_, by rw [List.length_map, kl]; exact hlen, fun q L hq hL1 hL2 => ?_⟩
      · rw [e2, k1, List.map_map]
        rfl
      · obtain ⟨c, hc, rfl⟩ := List.mem_map.mp hq
        exact Rp.pairT R1.sub (k3 c hc).1
      · obtain ⟨ap, nF⟩ := R1.apart hq
        have Rq1 := R1.put (o := SetTO pr w q L) ap nF
        have sq : Stp K G ρ sa σ F1 H1 F1 (upd H1 q (SetTO pr w q L)) _ := ⟨Rq1, Sub.refl, fun b u _ e => Sub.upd hq b u e, fun b z => .inl z⟩
        have inK : ∀ c ∈ L, ∃ z ∈ k, c = asL z := fun c hc => by
          obtain ⟨z, hz, e⟩ := List.mem_map.mp (hL1 c hc)
          exact ⟨z, hz, e.symm⟩
        refine ⟨q, L, 2, 64, rfl, upd_same, fun c hc => ?_, by decide, fun c hc => ?_, fun L' y hperm hnd hl64 hpw hy => ?_⟩
        · obtain ⟨z, hz, rfl⟩ := inK c hc
          exact Rp.pairT (R1.sub.trans (Sub.upd hq)) (k3 z hz).1
        · obtain ⟨z, hz, rfl⟩ := inK c hc
          refine ⟨rfl, fun m hm => ?_⟩
          obtain ⟨_, g1, g2⟩ := k3 z hz
          rcases List.mem_cons.mp hm with rfl | hm
          · exact g1
          · rw [List.mem_singleton.mp hm]
            exact g2
        · obtain ⟨M, rfl, hM⟩ := map_back (f := asL) (k := k) L' fun c hc => inK c (hperm.mem_iff.mp hc)
          have sorted : (M.map (·.2)).Pairwise (fun a b => ltP a b = true) := by
            rw [List.pairwise_map]
            rw [List.pairwise_map] at hpw
            have hnd' : M.Pairwise fun a b => (asL a).2 ≠ (asL b).2 := by
              have := hnd
              rw [List.map_map] at this
              exact List.pairwise_map.mp this
            refine ((hpw.and hnd').imp_of_mem fun {a b} ha hb hab => ?_)
            obtain ⟨_, g1, g2⟩ := k3 a (hM a ha)
            obtain ⟨_, g3, g4⟩ := k3 b (hM b hb)
            unfold ltP
            rw [decide_eq_true_eq]
            exact pair_lt hab.1 hab.2 g1 g2 g3 g4
          have same : M.map (·.2) = ssetP ps := sorted_extP sorted (pw_ssetP ps) fun z => by
            rw [mem_ssetP, ← k2]
            constructor
            · intro hz
              obtain ⟨m, hm, rfl⟩ := List.mem_map.mp hz
              exact List.mem_map.mpr ⟨m, hM m hm, rfl⟩
            · intro hz
              obtain ⟨c, hc, rfl⟩ := List.mem_map.mp hz
              have h1 := hL2 (asL c) (List.mem_map.mpr ⟨c, hc, rfl⟩)
              obtain ⟨c', hc', e⟩ := List.mem_map.mp h1
              obtain ⟨m, hm, rfl⟩ := List.mem_map.mp (hperm.mem_iff.mpr hc')
              have e' : ([m.2.1, m.2.2] : List Int) = [c.2.1, c.2.2] := e
              simp only [List.cons.injEq, and_true] at e'
              exact List.mem_map.mpr ⟨m, hm, Prod.ext e'.1 e'.2⟩
          have sm := Stp.alloc (o := .lst ((M.map asL).map fun q => V.ref q.1)) Rq1 hy
          refine p2 _ _ (sq.trans sm) _ (.inl (.lst upd_same ?_))
          rw [← same]
          have fin := (RpA.of_all fun m hm => (k3 m (hM m hm)).1).mono sm.sub
          rw [List.map_map] at fin ⊢
          exact fin
    · cases hr
  · refine .inl ⟨ρ, sa, F, st, R, (P.self (P.bind p)).imp fun d st1 F1 H1 s1 z x hx => ?_⟩
    obtain ⟨hd, p1⟩ := z
    obtain ⟨r, hr, _, p2⟩ := P.of p1 s1.rep
    have R1 := s1.rep
    unfold ssetD at hr
    split at hr
    · exact (hl ⟨_, _, hd⟩).elim
    · rename_i xs
      rw [Option.bind_eq_some_iff] at hr
      obtain ⟨ns, hns, hr⟩ := hr
      split at hr
      · rename_i hl
        cases hr
        obtain ⟨b, ys, rfl, e2, e3⟩ := hx.tuple R1.sub
        rw [e3.ints hns] at e2
        refine ⟨b, ns, rfl, e2, by omega, fun q c hq hc => ?_⟩
        refine ⟨q, _, c, rfl, upd_same, by omega, fun ms m hm1 hm2 hm3 hm => ?_⟩
        have em : ms = ssetL ns := sorted_ext hm1 (lt_ssetL ns) fun z => by rw [hm2 z, decide_eq_true_eq, mem_ssetL]
        subst em
        obtain ⟨ap, nF⟩ := R1.apart hq
        have Rq := R1.put (o := SetO w q (fun j => decide (j ∈ ns)) c) ap nF
        have sq : Stp K G ρ sa σ F1 H1 F1 (upd H1 q (SetO w q (fun j => decide (j ∈ ns)) c)) st1 := ⟨Rq, Sub.refl, fun b u _ e => Sub.upd hq b u e, fun b z => .inl z⟩
        have sm := Stp.alloc (o := .lst ((ssetL ns).map V.int)) Rq hm
        exact p2 _ _ (sq.trans sm) _ (.inl (.lst upd_same (RpA.of_ints _)))
      · cases hr
    · cases hr
theorem pe_alt {X : Cx} {e : Expr} {t u : TE} (h : PE X e t) (h' : PE X e u) : PE X e fun σ H Q => t σ H Q ∨ u σ H Q :=
  ⟨fun pins s σ H Q I q => q.elim (h.run pins s σ H Q I) (h'.run pins s σ H Q I)⟩
/-! ### a.index(b) -/
theorem T_index {a b : E} {Q : VK} : T K G cl gl o (.index a b) σ H Q → TupN.tIdx K (T K G cl gl true a) (tCons (T K G cl gl false b) tNil) σ H Q := by
  rintro ⟨ρ, sa, F, st, R, p⟩
  simp only [ev] at p
  refine ⟨ρ, sa, F, st, R, (P.bind p).imp fun d st1 F1 H1 s1 p1 x hx => ?_⟩
  split at p1
  · rename_i sq
    cases d <;> simp only [seqB, Bool.false_eq_true] at sq
    · rename_i xs
      refine .inl ⟨hx.methL s1.rep.sub, ρ, sa, F1, st1, s1.rep, (P.bind p1).imp fun e st2 F2 H2 s2 p2 y hy => ?_⟩
      obtain ⟨r, hr, q, _⟩ := P.of p2 s2.rep
      cases e <;> simp only [indexD] at hr <;> try cases hr
      rename_i i
      rw [Option.bind_eq_some_iff] at hr
      obtain ⟨ns, hns, hr⟩ := hr
      split at hr
      · rename_i hm
        cases hr
        obtain ⟨c, vs, rfl, h2, h3⟩ := (hx.mono s2).list s2.rep.sub
        rw [h3.ints hns] at h2
        exact ⟨c, ns, i, rfl, by rw [hy.int], .inl (.inl h2), hm, q _ (.inl (.int _))⟩
      · cases hr
    · rename_i xs
      refine .inr ⟨hx.meth s1.rep.sub, ρ, sa, F1, st1, s1.rep, (P.bind p1).imp fun e st2 F2 H2 s2 p2 y hy => ?_⟩
      obtain ⟨r, hr, q, _⟩ := P.of p2 s2.rep
      cases e <;> simp only [indexD] at hr <;> try cases hr
      rename_i i
      rw [Option.bind_eq_some_iff] at hr
      obtain ⟨ns, hns, hr⟩ := hr
      split at hr
      · rename_i hm
        cases hr
        obtain ⟨c, vs, rfl, h2, h3⟩ := (hx.mono s2).tuple s2.rep.sub
        rw [h3.ints hns] at h2
        exact ⟨c, ns, i, rfl, by rw [hy.int], h2, hm, q _ (.inl (.int _))⟩
      · cases hr
  · exact p1.elim
/-! ### displays -/
def trsOf (K : PySem.W.Frag) (G : Gh) (cl : Calls) (gl : List D) : List Str → Es → List (TE × TE)
  | k :: ks, .cons e es => (tC (.str k), T K G cl gl false e) :: trsOf K G cl gl ks es
  | _, _ => []
def esLen : Es → Nat
  | .nil => 0
  | .cons _ es => esLen es + 1
theorem pairs_ok {ρ : Eng.Env} {sa : SA} {p0 : Addr} : ∀ (es : Es) (ks : List Str) {F H : Hp} {st : Sta} {Ok : List D → Sta → Hp → Hp → Prop} {Q : List (V × V) → Hp → Prop}, esLen es = ks.length → Rep K G ρ sa σ F H st → F p0 = none → H p0 = some (.dK []) → ¬ exA sa p0 → P K G ρ sa σ F H (evs cl gl ρ es st) Ok →
    (∀ ds st2 F2 H2 vs, Stp K G ρ sa σ F H F2 H2 st2 → F2 p0 = none → H2 p0 = some (.dK []) → RpA K sa F2 vs ds → vs.length = ks.length → Ok ds st2 F2 H2 → Q ((ks.map V.str).zip vs) H2) → tPairs (trsOf K G cl gl ks es) σ H Q
  | .nil, ks, F, H, st, Ok, Q, hl, R, nF, hp, nx, h, q => by
    cases ks with
    | nil => 
      simp only [evs] at h
      exact q [] st F H [] (Stp.refl R) nF hp .nil rfl (h.here R)
    | cons k ks => cases hl
  | .cons e es, ks, F, H, st, Ok, Q, hl, R, nF, hp, nx, h, q => by
    cases ks with
    | nil => cases hl
    | cons k ks =>
      simp only [evs] at h
      have hl' : esLen es = ks.length := Nat.succ.inj hl
      refine ⟨ρ, sa, F, st, R, (P.bind h).imp fun d st1 F1 H1 s1 p1 x hx => ?_⟩
      have k1 := s1.keep _ _ nx hp
      have k2 : F1 p0 = none := by
        cases z : F1 p0 with
        | none => rfl
        | some u =>
          rcases s1.new p0 (by rw [z]; exact fun w => nomatch w) with w | w | ⟨ys, w, tw⟩
          · exact (w nF).elim
          · rw [hp] at w; cases w
          · have := s1.rep.sub _ _ w
            rw [k1] at this; cases this; cases tw
      refine pairs_ok es ks hl' s1.rep k2 k1 nx (P.bind p1) fun ds st2 F2 H2 vs s2 g1 g2 g3 g4 g5 => ?_
      refine q (d :: ds) st2 F2 H2 (x :: vs) (s1.trans s2) g1 g2 (.cons (hx.rp.mono s2.sub) g3) (by rw [List.length_cons, List.length_cons, g4]) (P.here g5 s2.rep)
theorem putK_new {k : Key} {v : V} {l : List (Key × V)} (h : k ∉ l.map (·.1)) : putK l k v = l ++ [(k, v)] := by
  unfold putK
  rw [if_neg]
  intro z
  rw [List.any_eq_true] at z
  obtain ⟨p, hp, e⟩ := z
  exact h (List.mem_map.mpr ⟨p, hp, of_decide_eq_true e⟩)
theorem mergeK_new : ∀ (more acc : List (Key × V)), (more.map (·.1)).Nodup → (∀ p ∈ more, p.1 ∉ acc.map (·.1)) → mergeK acc more = acc ++ more
  | [], acc, _, _ => by unfold mergeK; simp
  | p :: more, acc, hn, hd => by
    obtain ⟨h1, h2⟩ := List.nodup_cons.mp hn
    show mergeK (putK acc p.1 p.2) more = _
    rw [putK_new (hd p (List.mem_cons_self ..)), mergeK_new more _ h2 fun r hr z => ?_]
    · simp
    · rw [List.map_append, List.mem_append] at z
      rcases z with z | z
      · exact hd r (List.mem_cons_of_mem _ hr) z
      · have : r.1 = p.1 := by simpa using z
        exact h1 (List.mem_map.mpr ⟨r, hr, this⟩)
theorem RpK.zip {sa : SA} : ∀ {ks : List Str} {vs : List V} {ds : List D}, RpA K sa F vs ds → vs.length = ks.length → RpK K sa F ((ks.zip vs).map fun p => (.inr p.1, p.2)) ((ks.zip ds).map fun p => (.inr p.1, p.2))
  | [], [], _, .nil, _ => .nil
  | k :: ks, _ :: _, _, .cons a b, h => .cons a (RpK.zip (ks := ks) b (Nat.succ.inj h))
  | [], _ :: _, _, .cons _ _, h => by cases h
  | _ :: _, [], _, .nil, h => by cases h
theorem P.base {α β : Type} {ρ : Eng.Env} {sa : SA} {F1 H1 : Hp} {st0 : Sta} {r : R α} {k : α → Sta → R β} {Ok : β → Sta → Hp → Hp → Prop} (s0 : Stp K G ρ sa σ F H F1 H1 st0) (h : P K G ρ sa σ F H (r.bind k) Ok) :
    P K G ρ sa σ F1 H1 r (fun a st2 _ _ => P K G ρ sa σ F H (k a st2) Ok) := by
  cases r with
  | ok a st => exact fun F' H' _ => h
  | exc e st => exact fun F' H' s' => h F' H' (s0.trans s')
  | bad => exact h
theorem T_dlit {ks : List Str} {es : Es} {Q : VK} (hl : esLen es = ks.length) : T K G cl gl o (.dlit ks es) σ H Q → tDisp (trsOf K G cl gl ks es) σ H Q := by
  rintro ⟨ρ, sa, F, st, R, p⟩ p0 hp0
  simp only [ev] at p
  obtain ⟨ap, nF⟩ := R.apart hp0
  have R0 := R.put (o := .dK []) ap nF
  have s0 : Stp K G ρ sa σ F H F (upd H p0 (.dK [])) st := ⟨R0, Sub.refl, fun b u _ e => Sub.upd hp0 b u e, fun b z => .inl z⟩
  refine pairs_ok es ks hl R0 nF upd_same ap.ex (P.base s0 p) fun ds st2 F2 H2 vs s2 g1 g2 g3 g4 g5 => ⟨g2, (ks.zip vs).map fun q => (.inr q.1, q.2), ?_, ?_, ?_⟩
  · rw [List.map_map]
    have : ∀ (ks : List Str) (vs : List V), (ks.map V.str).zip vs = (ks.zip vs).map ((fun kv : Key × V => (kV kv.1, kv.2)) ∘ fun q : Str × V => (.inr q.1, q.2)) := by
      intro ks
      induction ks with
      | nil => intro vs; rfl
      | cons k ks ih =>
        intro vs
        cases vs with
        | nil => rfl
        | cons v vs =>
          rw [List.map_cons, List.zip_cons_cons, List.zip_cons_cons, List.map_cons, ih vs]
          rfl
    exact this ks vs
  · unfold dlitD at g5
    split at g5
    · rename_i hz
      rw [List.length_map, List.length_zip, g4]
      omega
    · exact g5.elim
  · unfold dlitD at g5
    split at g5
    · rename_i hz
      have hk : ((ks.zip vs).map fun q : Str × V => ((.inr q.1, q.2) : Key × V)).map (·.1) = ks.map Sum.inr := by
        rw [List.map_map]
        have : ∀ (ks : List Str) (vs : List V), vs.length = ks.length → (ks.zip vs).map ((fun x : Key × V => x.1) ∘ fun q : Str × V => (.inr q.1, q.2)) = ks.map Sum.inr := by
          intro ks
          induction ks with
          | nil => intro vs h; rfl
          | cons k ks ih =>
            intro vs h
            cases vs with
            | nil => cases h
            | cons v vs => rw [List.zip_cons_cons, List.map_cons, List.map_cons, ih vs (Nat.succ.inj h)]; rfl
        exact this ks vs g4
      rw [mergeK_new _ [] (by
        rw [hk]
        exact List.pairwise_map.mpr (hz.2.2.2.imp fun h e => h (Sum.inr.inj e))) (fun p _ z => by cases z), List.nil_append]
      have a2 : Apart G ρ sa σ p0 := ap
      have R2 := s2.rep.put (o := .dK ((ks.zip vs).map fun q => (.inr q.1, q.2))) a2 g1
      have R3 := R2.freeze a2 g1 upd_same
      have sF : Sub F2 (upd F2 p0 (.dK ((ks.zip vs).map fun q => (.inr q.1, q.2)))) := Sub.upd g1
      have kp : ∀ b u, ¬ exA sa b → H b = some u → upd H2 p0 (.dK ((ks.zip vs).map fun q => (.inr q.1, q.2))) b = some u := fun b u nb e => by
        have ne : b ≠ p0 := fun z => by subst z; rw [hp0] at e; cases e
        rw [upd_ne ne]
        exact s2.keep _ _ nb (s0.keep _ _ nb e)
      refine g5 _ _ ⟨R3, (s0.sub.trans s2.sub).trans sF, kp, fun b h => ?_⟩ _ (.inl (.dic upd_same ((RpK.zip g3 g4).mono sF)))
      by_cases hb : b = p0
      · subst hb; exact .inr (.inl hp0)
      · rw [upd_ne hb] at h ⊢
        rcases s2.new b h with z | z | z
        · exact .inl z
        · refine .inr (.inl ?_)
          rw [upd_ne hb] at z
          exact z
        · exact .inr (.inr z)
    · exact g5.elim
end
end Eng

end
section
set_option Elab.async false
set_option linter.all false
set_option maxRecDepth 100000
set_option maxHeartbeats 4000000
set_option autoImplicit false
/-! RepA: repr of a tuple of plain data, where no repr is under way. -/
namespace Eng
open PySem PySem.Spec PyProof.Rows L2
def rRepr (K : PySem.W.Frag) : List V → Hp → VK → Prop := fun xs H Q => ∃ v d, xs = [v] ∧ Dp K H v d ∧ reprD d = some (.str d.shown) ∧ Q (.str d.shown) H
theorem reprD_facts {d r : D} (h : reprD d = some r) : r = .str d.shown ∧ (∃ ds, d = .tuple ds) ∧ d.canLay0 = true ∧ d.showable = true ∧ d.hasDict = false ∧ d.depth ≤ 60 ∧ d.shown.length ≤ sizeLine := by
  unfold reprD at h
  split at h
  · split at h
    · rename_i c
      simp only [Bool.and_eq_true, decide_eq_true_eq, Bool.not_eq_true'] at c
      cases h
      exact ⟨rfl, ⟨_, rfl⟩, c.1.1.1.1, c.1.1.1.2, c.1.1.2, c.1.2, c.2⟩
    · cases h
  · cases h
theorem call_reprD {X : Cx} (hg : X.A.guards = some []) (hu : X.A.units + 65 < cLine) : CallR X (.builtin "repr") (rRepr X.K) := by
  intro pins s σ H xs us Q I r h
  obtain ⟨v, d, rfl, hd, hr, q⟩ := h
  obtain ⟨-, ⟨ds, rfl⟩, c1, c2, c3, c4, c5⟩ := reprD_facts hr
  obtain ⟨u, rfl, hv⟩ := vals1 r
  obtain ⟨as, rd⟩ := Dp.reads I _ _ _ hd hv
  obtain ⟨a, rfl⟩ : ∃ a, u = .ref a := by cases rd; exact ⟨_, rfl⟩
  exact repr_of_reads' rd c2 (fun z => by rw [c3] at z; cases z) hg (by omega) (fun _ _ e => e) (fun h' t tk hk => ⟨.str _, H, I.kept hk, ⟨_, rfl⟩, q⟩) c5
section
variable {K : PySem.W.Frag} {G : Gh} {cl : Calls} {gl : List D} {o : Bool} {σ : L2.St} {H : Hp}
theorem T_repr {a : E} {Q : VK} : T K G cl gl o (.repr a) σ H Q → tCB (rRepr K) (tCons (T K G cl gl false a) tNil) σ H Q := by
  rintro ⟨ρ, sa, F, st, R, p⟩
  simp only [ev] at p
  refine ⟨ρ, sa, F, st, R, (P.bind p).imp fun d st1 F1 H1 s1 p1 x hx => ?_⟩
  obtain ⟨r, hr, _, p2⟩ := P.of p1 s1.rep
  obtain ⟨rfl, -, c1, -⟩ := reprD_facts hr
  exact ⟨x, d, rfl, hx.rp.dp s1.rep.sub c1, hr, p2 F1 H1 (Stp.refl s1.rep) _ (.inl (.str _))⟩
end
end Eng

end
section
set_option Elab.async false
set_option linter.all false
set_option maxRecDepth 100000
set_option maxHeartbeats 4000000
set_option autoImplicit false
/-! Eng, part H: which piece of the text an expression stands for, and that it does. -/
namespace Eng
open PySem PySem.Spec PyProof.Rows L2
/-- the scope of a generator expression with the one name x, its iterable -/
def genB (sc scope : Scope) (x : Str) : Bool :=
  decide (scope.kind = .function) && !scope.isCoroutine && (scope.names.all fun y => decide (y.2 ≠ .cell)) && decide (scope.names.lookup (".0" : Str) = some .local) && decide (scope.names.lookup x = some .local) &&
    (scope.names.all fun y => decide (y.2 ≠ .free) || decide (sc.names.lookup y.1 = some .cell))
def plainIter : Expr → Bool
  | .List .. => false
  | .Set .. => false
  | _ => true
theorem fold_plain {b : Expr} {env : PySem.Env} (h : plainIter b = true) : ∀ v, genFold b env v = pure v := by
  intro v
  cases b <;> first | rfl | cases h
mutual
def chkTg (cc : CC) (sc : Scope) (own : Str → Bool) : Tg → Expr → Bool
  | .name i, x => match x with
    | .Name n _ => decide (cc.N[i]? = some n) && locB sc own n
    | _ => false
  | .tup ts, x => match x with
    | .Tuple es _ _ => chkTgs cc sc own ts es
    | _ => false
def chkTgs (cc : CC) (sc : Scope) (own : Str → Bool) : Tgs → List Expr → Bool
  | .nil, xs => xs.isEmpty
  | .cons t ts, xs => match xs with
    | x :: xs => notStar x && chkTg cc sc own t x && chkTgs cc sc own ts xs
    | [] => false
end
def isTup : Expr → Bool
  | .Tuple .. => true
  | _ => false
/-- the keys of a display -/
def chkKs : List Str → List (Option Expr) → Bool
  | [], [] => true
  | k :: ks, some (.Constant (.str z) _ _) :: ys => decide (k = z) && chkKs ks ys
  | _, _ => false
theorem chkKs_cons {k : Str} {ks : List Str} {y : Option Expr} {ys : List (Option Expr)} (h : chkKs (k :: ks) (y :: ys) = true) : (∃ j p, y = some (.Constant (.str k) j p)) ∧ chkKs ks ys = true := by
  cases y with
  | none => simp [chkKs] at h
  | some e =>
    cases e <;> try (simp [chkKs] at h; done)
    rename_i c j p
    cases c <;> try (simp [chkKs] at h; done)
    simp only [chkKs, Bool.and_eq_true, decide_eq_true_eq] at h
    obtain ⟨rfl, h2⟩ := h
    exact ⟨⟨j, p, rfl⟩, h2⟩
theorem chkKs_all : ∀ {ks : List Str} {ys : List (Option Expr)}, chkKs ks ys = true → ys.all (·.isSome) = true ∧ ys.length = ks.length
  | [], [], _ => ⟨rfl, rfl⟩
  | k :: ks, y :: ys, h => by
    obtain ⟨⟨j, p, rfl⟩, h2⟩ := chkKs_cons h
    obtain ⟨g1, g2⟩ := chkKs_all h2
    exact ⟨by rw [List.all_cons, g1]; rfl, by rw [List.length_cons, List.length_cons, g2]⟩
  | [], _ :: _, h => by simp [chkKs] at h
  | _ :: _, [], h => by simp [chkKs] at h
mutual
def chkE (cc : CC) : E → Scope → (Str → Bool) → Expr → Bool
  | .var i, sc, own, x => match x with
    | .Name n _ => decide (cc.N[i]? = some n) && visB sc n && okName n
    | _ => false
  | .bor i, sc, own, x => match x with
    | .Name n _ => decide (cc.N[i]? = some n) && visB sc n && okName n
    | _ => false
  | .glob i, sc, own, x => match x with
    | .Name n _ => decide (cc.gls[i]? = some n) && glB sc n && okName n
    | _ => false
  | .const c, sc, own, x => isConst c x
  | .bin op a b, sc, own, x => match x with
    | .BinOp l p r _ => decide (p = op.op) && chkE cc a sc own l && chkE cc b sc own r
    | _ => false
  | .neg a, sc, own, x => match x with
    | .UnaryOp .USub l _ => chkE cc a sc own l
    | _ => false
  | .not a, sc, own, x => match x with
    | .UnaryOp .Not l _ => chkE cc a sc own l
    | _ => false
  | .and a b, sc, own, x => match x with
    | .BoolOp .And (l :: r :: more) pos => chkE cc a sc own l && (match more with
      | [] => chkE cc b sc own r
      | _ :: _ => chkE cc b sc own (.BoolOp .And (r :: more) pos))
    | _ => false
  | .or a b, sc, own, x => match x with
    | .BoolOp .Or (l :: r :: more) pos => chkE cc a sc own l && (match more with
      | [] => chkE cc b sc own r
      | _ :: _ => chkE cc b sc own (.BoolOp .Or (r :: more) pos))
    | _ => false
  | .cmp op a b, sc, own, x => match x with
    | .Compare l [p] [r] _ => decide (p = op.op) && notSet r && chkE cc a sc own l && chkE cc b sc own r
    | _ => false
  | .isN yes a, sc, own, x => match x with
    | .Compare l [p] [.Constant .none _ _] _ => decide (p = (if yes then CmpOp.Is else CmpOp.IsNot)) && chkE cc a sc own l
    | _ => false
  | .chain o p a b c, sc, own, x => match x with
    | .Compare l [q, q'] [r, r'] _ => decide (q = o.op) && decide (q' = p.op) && notSet r' && chkE cc a sc own l && chkE cc b sc own r && chkE cc c sc own r'
    | _ => false
  | .chain3 o p q a b c d, sc, own, x => match x with
    | .Compare l [w, w', w''] [r, r', r''] _ => decide (w = o.op) && decide (w' = p.op) && decide (w'' = q.op) && notSet r'' && chkE cc a sc own l && chkE cc b sc own r && chkE cc c sc own r' && chkE cc d sc own r''
    | _ => false
  | .ite c a b, sc, own, x => match x with
    | .IfExp t l r _ => chkT cc c sc own t && chkE cc a sc own l && chkE cc b sc own r
    | _ => false
  | .tup es, sc, own, x => match x with
    | .Tuple xs _ _ => chkEs cc es sc own xs
    | _ => false
  | .lst es, sc, own, x => match x with
    | .List xs _ => chkEs cc es sc own xs
    | _ => false
  | .idx a b, sc, own, x => match x with
    | .Subscript l r _ => notSlice r && chkE cc a sc own l && chkE cc b sc own r
    | _ => false
  | .dget a b, sc, own, x => match x with
    | .Subscript l r _ => notSlice r && chkE cc a sc own l && chkE cc b sc own r
    | _ => false
  | .din yes k d, sc, own, x => match x with
    | .Compare l [p] [r] _ => decide (p = (if yes then CmpOp.In else CmpOp.NotIn)) && notSet r && chkE cc k sc own l && chkE cc d sc own r
    | _ => false
  | .slice a lo hi, sc, own, x => match x with
    | .Subscript l (.Slice f t none _) _ => chkE cc a sc own l && chkP cc lo sc own f && chkP cc hi sc own t
    | _ => false
  | .bi b a, sc, own, x => match callOf x with
    | some (n, [l]) => decide (n = b.name) && glB sc n && notStar l && chkE cc a sc own l
    | _ => false
  | .two mx a b, sc, own, x => match callOf x with
    | some (n, [l, r]) => decide (n = (if mx then "max" else "min" : Str)) && glB sc n && notStar l && notStar r && chkE cc a sc own l && chkE cc b sc own r
    | _ => false
  | .inst a t, sc, own, x => match callOf x with
    | some (n, [l, .Name y _]) => decide (n = ("isinstance" : Str)) && glB sc n && notStar l && chkE cc a sc own l && askTy t && decide (y = Str.ofString t) && glB sc y
    | _ => false
  | .bits a, sc, own, x => match x with
    | .Call (.Attribute l n p) [] [] q => decide (n = ("bit_length" : Str)) && decide (p.endLine = q.line) && plainBase l && chkE cc a sc own l
    | _ => false
  | .call f es, sc, own, x => match callOf x, cc.fns[f]? with
    | some (n, l :: ls), some (m, _) => decide (n = m) && glB sc n && okName n && chkAs cc es sc own (l :: ls)
    | _, _ => false
  | .comp ol tg it c e, sc, own, x => match x with
    | .ListComp elt [⟨t, i, ifs, k⟩] scope _ => decide (k = 0) && blkC cc.N sc scope ol && tgOk (ol.map (·.2)) it tg && notSet i && chkI cc it sc own t i &&
        chkTg cc (relS scope sc) (fun y => scope.names.lookup y == some .cell) tg t && chkC cc c (relS scope sc) (fun y => scope.names.lookup y == some .cell) ifs && chkE cc e (relS scope sc) (fun y => scope.names.lookup y == some .cell) elt
    | _ => false
  | .emp .., _, _, _ => false
  | .index a b, sc, own, x => match x with
    | .Call (.Attribute l n p) [r] [] q => decide (n = ("index" : Str)) && decide (p.endLine = q.line) && plainBase l && notStar r && chkE cc a sc own l && chkE cc b sc own r
    | _ => false
  | .sset a, sc, own, x => match x with
    | .Call (.Name n _) [.Call (.Name m _) [l] [] _] [] _ => decide (n = ("sorted" : Str)) && decide (m = ("set" : Str)) && glB sc n && glB sc m && notStar l && chkE cc a sc own l
    | _ => false
  | .repr a, sc, own, x => match callOf x with
    | some (n, [l]) => cc.rep && decide (n = ("repr" : Str)) && glB sc n && notStar l && chkE cc a sc own l
    | _ => false
  | .dlit ks es, sc, own, x => match x with
    | .Dict keys values _ => chkKs ks keys && decide (ks ≠ []) && decide (ks.length ≤ 15) && decide (esLen es = ks.length) && decide (values.length = ks.length) && chkEs cc es sc own values
    | _ => false
  | .quant al (.seq e) q, sc, own, x => match x with
    | .Call (.Name n _) [.GeneratorExp elt [⟨.Name y _, i, [], k⟩] scope _] [] _ => cc.gen && decide (k = 0) && decide (n = (if al then "all" else "any" : Str)) && glB sc n && genB sc scope y && plainIter i && chkE cc e sc own i && chkQ cc.N scope.names y q elt
    | _ => false
  | .quant .., _, _, _ => false
  | .comp2 .., _, _, _ => false
def chkT (cc : CC) : E → Scope → (Str → Bool) → Expr → Bool
  | .emp yes a, sc, own, x => match yes, x with
    | true, .UnaryOp .Not l _ => plainTest l && chkE cc a sc own l
    | false, l => plainTest l && chkE cc a sc own l
    | _, _ => false
  | .and a b, sc, own, x => match x with
    | .BoolOp .And (l :: r :: more) pos => chkT cc a sc own l && (match more with
      | [] => chkT cc b sc own r
      | _ :: _ => chkT cc b sc own (.BoolOp .And (r :: more) pos))
    | _ => false
  | .or a b, sc, own, x => match x with
    | .BoolOp .Or (l :: r :: more) pos => chkT cc a sc own l && (match more with
      | [] => chkT cc b sc own r
      | _ :: _ => chkT cc b sc own (.BoolOp .Or (r :: more) pos))
    | _ => false
  | .not a, sc, own, x => match x with
    | .UnaryOp .Not l _ => chkT cc a sc own l
    | _ => false
  | .cmp op a b, sc, own, x => match x with
    | .Compare l [p] [r] _ => decide (p = op.op) && notSet r && chkE cc a sc own l && chkE cc b sc own r
    | _ => false
  | .isN yes a, sc, own, x => match x with
    | .Compare l [p] [.Constant .none _ _] _ => decide (p = (if yes then CmpOp.Is else CmpOp.IsNot)) && chkE cc a sc own l
    | _ => false
  | .chain o p a b c, sc, own, x => match x with
    | .Compare l [q, q'] [r, r'] _ => decide (q = o.op) && decide (q' = p.op) && notSet r' && chkE cc a sc own l && chkE cc b sc own r && chkE cc c sc own r'
    | _ => false
  | .chain3 o p q a b c d, sc, own, x => match x with
    | .Compare l [w, w', w''] [r, r', r''] _ => decide (w = o.op) && decide (w' = p.op) && decide (w'' = q.op) && notSet r'' && chkE cc a sc own l && chkE cc b sc own r && chkE cc c sc own r' && chkE cc d sc own r''
    | _ => false
  | .din yes k d, sc, own, x => match x with
    | .Compare l [p] [r] _ => decide (p = (if yes then CmpOp.In else CmpOp.NotIn)) && notSet r && chkE cc k sc own l && chkE cc d sc own r
    | _ => false
  | .var i, sc, own, x => match x with
    | .Name n _ => decide (cc.N[i]? = some n) && visB sc n && okName n
    | _ => false
  | .inst a t, sc, own, x => match callOf x with
    | some (n, [l, .Name y _]) => decide (n = ("isinstance" : Str)) && glB sc n && notStar l && chkE cc a sc own l && askTy t && decide (y = Str.ofString t) && glB sc y
    | _ => false
  | .bi b a, sc, own, x => match callOf x with
    | some (n, [l]) => decide (n = b.name) && glB sc n && notStar l && chkE cc a sc own l
    | _ => false
  | .call f es, sc, own, x => match callOf x, cc.fns[f]? with
    | some (n, l :: ls), some (m, _) => decide (n = m) && glB sc n && okName n && chkAs cc es sc own (l :: ls)
    | _, _ => false
  | .idx a b, sc, own, x => match x with
    | .Subscript l r _ => notSlice r && chkE cc a sc own l && chkE cc b sc own r
    | _ => false
  | .quant al (.seq e) q, sc, own, x => match x with
    | .Call (.Name n _) [.GeneratorExp elt [⟨.Name y _, i, [], k⟩] scope _] [] _ => cc.gen && decide (k = 0) && decide (n = (if al then "all" else "any" : Str)) && glB sc n && genB sc scope y && plainIter i && chkE cc e sc own i && chkQ cc.N scope.names y q elt
    | _ => false
  | _, _, _, _ => false
def chkP (cc : CC) : OE → Scope → (Str → Bool) → Option Expr → Bool
  | .none, sc, own, x => x.isNone
  | .some e, sc, own, x => match x with
    | some x => chkE cc e sc own x
    | none => false
def chkC (cc : CC) : OE → Scope → (Str → Bool) → List Expr → Bool
  | .none, sc, own, x => x.isEmpty
  | .some e, sc, own, x => match x with
    | [x] => chkT cc e sc own x
    | _ => false
def chkEs (cc : CC) : Es → Scope → (Str → Bool) → List Expr → Bool
  | .nil, sc, own, xs => xs.isEmpty
  | .cons e es, sc, own, xs => match xs with
    | x :: xs => notStar x && chkE cc e sc own x && chkEs cc es sc own xs
    | [] => false
def chkAs (cc : CC) : Es → Scope → (Str → Bool) → List Expr → Bool
  | .nil, sc, own, xs => xs.isEmpty
  | .cons e es, sc, own, xs => match xs with
    | x :: xs => notStar x && chkE cc e sc own x && chkAs cc es sc own xs
    | [] => false
/-- what is walked, to a target -/
def chkI (cc : CC) : It → Scope → (Str → Bool) → Expr → Expr → Bool
  | .seq e, sc, own, t, x => chkE cc e sc own x
  | .rng1 a, sc, own, t, x => match callOf x with
    | some (n, [l]) => decide (n = ("range" : Str)) && glB sc n && notStar l && chkE cc a sc own l
    | _ => false
  | .rng2 a b, sc, own, t, x => match callOf x with
    | some (n, [l, r]) => decide (n = ("range" : Str)) && glB sc n && notStar l && notStar r && chkE cc a sc own l && chkE cc b sc own r
    | _ => false
  | .rng3 a b c, sc, own, t, x => match callOf x with
    | some (n, [l, r, q]) => decide (n = ("range" : Str)) && glB sc n && notStar l && notStar r && notStar q && chkE cc a sc own l && chkE cc b sc own r && chkE cc c sc own q
    | _ => false
  | .enum e, sc, own, t, x => match callOf x with
    | some (n, [l]) => decide (n = ("enumerate" : Str)) && glB sc n && isTup t && notStar l && chkE cc e sc own l
    | _ => false
  | .zip a b, sc, own, t, x => match callOf x with
    | some (n, [l, r]) => decide (n = ("zip" : Str)) && glB sc n && isTup t && notStar l && notStar r && chkE cc a sc own l && chkE cc b sc own r
    | _ => false
  | .rev e, sc, own, t, x => match callOf x with
    | some (n, [l]) => decide (n = ("reversed" : Str)) && glB sc n && notStar l && chkE cc e sc own l
    | _ => false
end

/-! ### where a piece stands -/
/-- the built-in names that are used -/
def bltB : List Str := ["len", "tuple", "list", "sorted", "sum", "abs", "int", "bool", "max", "min", "any", "all", "isinstance", "str", "range", "enumerate", "zip", "reversed", "set", "repr"]
structure Ctx (X : Cx) (cc : CC) (sc : Scope) (own : Str → Bool) (G : Gh) (cl : Calls) (gl : List D) : Prop where
  scope : X.env.scope = sc
  N : X.N = cc.N
  nd : X.N.Nodup
  calm : X.calm = true
  units : X.A.units + 65 < cLine
  fnn : ∀ x, own x = true → X.fn x = true
  blt : ∀ x ∈ bltB, X.mg x = none
  calls : ∀ (f : Nat) (x : Str) (n : Nat), cc.fns[f]? = some (x, n) → (∀ ds st, cl f ds st ≠ .bad → ds.length = n) ∧ ∃ k fa fd ps, FnOk X.prog X.w X.K X.mg X.base (L2.CX X.prog X.w) k fa fd ps (spF X.K G.sa.tb G.xa cl f n) ∧ Room k X.A ∧ X.mg x = some (.ref fa) ∧ PySem.W.keepIn X.K (.ref fa) = true ∧ Binds X.K fd ps []
  pass : Passes (L2.CX X.prog X.w) X G.E
  gls : ∀ (i : Nat) (x : Str), cc.gls[i]? = some x → ∃ u v d, X.mg x = some u ∧ RelV v u ∧ gl[i]? = some d ∧ ∀ sa F, Rp X.K sa F v d
  gd : cc.rep = true → X.A.guards = some []
  gen : cc.gen = true → ∃ c P k, GxR.TabB X.base X.mg c P ∧ X.env.code = .ref c ∧ P ∈ G.sa.tb ∧ Room k X.A
section
variable {X : Cx} {cc : CC} {sc : Scope} {own : Str → Bool} {G : Gh} {cl : Calls} {gl : List D}
theorem Ctx.blk (C : Ctx X cc sc own G cl gl) (s : Shared) (H : Hp) (scope : Scope) (cs : List (Str × Addr)) (L : Addr) (fp : List Addr) :
    Ctx (X.blk s H scope (compEnvC scope cs L X.env) fp) cc (relS scope sc) (fun y => scope.names.lookup y == some .cell) { G with E := E0 } cl gl :=
  ⟨by rw [← C.scope]; rfl, C.N, C.nd, C.calm, C.units, fun x h => h, C.blt, C.calls, passL, C.gls, C.gd, C.gen⟩
theorem vis_of (C : Ctx X cc sc own G cl gl) {x : Str} (h : visB sc x = true) : Vis X.env.scope x := by
  rw [C.scope]
  unfold visB at h
  unfold Vis
  split at h <;> simp_all
theorem gl_of (C : Ctx X cc sc own G cl gl) {x : Str} (h : glB sc x = true) : Gl X x := by
  unfold Gl PySem.Env.kindOf
  rw [C.scope]
  unfold glB at h
  split at h <;> simp_all
theorem callOf_eq {x : Expr} {n : Str} {es : List Expr} (h : callOf x = some (n, es)) : ∃ p q, x = .Call (.Name n p) es [] q := by
  unfold callOf at h
  split at h
  · cases h; exact ⟨_, _, rfl⟩
  · cases h
theorem pg_or {X : Cx} {x : Expr} {t u : TG} (h : PG X x t) (h' : PG X x u) : PG X x fun v σ H Q => t v σ H Q ∨ u v σ H Q :=
  ⟨fun pins s σ H v y Q I r hw => hw.elim (h.run pins s σ H v y Q I r) (h'.run pins s σ H v y Q I r)⟩
mutual
theorem sTg (C : Ctx X cc sc own G cl gl) : ∀ (t : Tg) (x : Expr), chkTg cc sc own t x = true → PG X x (gOf X.K t)
  | .name i, x, h => by
    cases x <;> simp only [chkTg, Bool.and_eq_true, decide_eq_true_eq, Bool.false_eq_true] at h
    obtain ⟨h1, h2⟩ := h
    unfold locB at h2
    refine pg_name C.nd (by rw [C.N]; exact h1) ?_ ?_
    · unfold L2.Loc; rw [C.scope]
      split at h2 <;> simp_all
    · rw [C.scope]
      split at h2
      · rename_i q; exact .inr q
      · exact .inl (C.fnn _ h2)
      · cases h2
  | .tup ts, x, h => by
    cases x <;> simp only [chkTg, Bool.false_eq_true] at h
    rename_i es k pos
    obtain ⟨h1, h2, h3⟩ := sTgs C ts es h
    obtain ⟨h4, h5⟩ := assign_len (env := X.env) h2
    exact pg_or (pg_tup C.calm h1 (h4.trans h3) h5) (pg_unl C.calm h1 (h4.trans h3) h5)
theorem sTgs (C : Ctx X cc sc own G cl gl) : ∀ (ts : Tgs) (xs : List Expr), chkTgs cc sc own ts xs = true → PGs X xs (gsOf X.K ts) ∧ xs.all notStar = true ∧ xs.length = tgLen ts
  | .nil, xs, h => by
    simp only [chkTgs, List.isEmpty_iff] at h
    subst h
    exact ⟨pgs_nil, rfl, rfl⟩
  | .cons t ts, xs, h => by
    cases xs with
    | nil => simp [chkTgs] at h
    | cons x xs =>
      simp only [chkTgs, Bool.and_eq_true] at h
      obtain ⟨⟨h1, h2⟩, h3⟩ := h
      obtain ⟨g1, g2, g3⟩ := sTgs C ts xs h3
      refine ⟨pgs_cons (sTg C t x h2) g1 (by rw [assign_cons h1]; rfl), by rw [List.all_cons, h1, g2]; rfl, by rw [List.length_cons, g3]; rfl⟩
end
end
end Eng

end
section
set_option Elab.async false
set_option linter.all false
set_option maxRecDepth 100000
set_option maxHeartbeats 16000000
set_option autoImplicit false
/-! Eng, part I: expressions do what they stand for. -/
namespace Eng
open PySem PySem.Spec PyProof.Rows L2

section
variable {cc : CC} {cl : Calls} {gl : List D}
theorem isConst_pe {X : Cx} {d : D} {x : Expr} (h : isConst d x = true) : flatD d = true ∧ PE X x (tC (cV d)) := by
  unfold isConst at h
  split at h
  · exact ⟨rfl, pe_non⟩
  · rw [beq_iff_eq] at h; subst h; exact ⟨rfl, pe_bl⟩
  · have h := of_decide_eq_true h; subst h; exact ⟨rfl, pe_int⟩
  · have h := of_decide_eq_true h; subst h; exact ⟨rfl, pe_str⟩
  · cases h
theorem all_star {X : Cx} {xs : List Expr} {G : Gh} {sc : Scope} {own : Str → Bool} : ∀ {es : Es} {xs : List Expr}, chkAs cc es sc own xs = true → xs.all notStar = true
  | .nil, xs, h => by
    simp only [chkAs, List.isEmpty_iff] at h
    subst h; rfl
  | .cons e es, xs, h => by
    cases xs with
    | nil => simp [chkAs] at h
    | cons x xs =>
      simp only [chkAs, Bool.and_eq_true] at h
      rw [List.all_cons, h.1.1, all_star (X := X) (xs := xs) (G := G) h.2]; rfl
theorem pe_call' {X : Cx} {CX : CXT} {k : Nat} {f : Addr} {fd : FuncData} {ps : List Str} {sp : Sp} {dvs : List V} {ds : List Value} {E : XK} {x : Str} {p pos : Pos} {e : Expr} {es : List Expr} {t : TA} (F : FnOk X.prog X.w X.K X.mg X.base CX k f fd ps sp) (hr : Room k X.A) (hg : Gl X x) (hm : X.mg x = some (.ref f)) (hk : PySem.W.keepIn X.K (.ref f) = true) (hb : Binds X.K fd ps ds) (hd : Vals dvs ds) (hx : Passes CX X E)
    (ha : PA X (e :: es) t) (hdb : (x == ("__debug__" : Str)) = false) (hs : (e :: es).all notStar = true) : PE X (.Call (.Name x p) (e :: es) [] pos) (tCall sp dvs E t) := by
  rw [List.all_cons, Bool.and_eq_true] at hs
  exact pe_call F hr hg hm hk hb hd hx ha hdb (star_cons hs.1) (star_any hs.2)
theorem pi_listV {X : Cx} {tg : Expr} {pins : List (Addr × Obj)} {s1 : Shared} {σ : L2.St} {H1 : Hp} {R : L2.It → Hp → Prop} {v : Value} {y : V} {a : Addr} (I1 : Inv X pins σ H1 s1) (r1 : RelV y v) (e : y = .ref a) (hs : ∃ xs, SqL X.K H1 a xs) (q : R (Itl X.K a) H1) :
    wpAny (model X.prog X.w) X.A (pyIter v) (PIE X pins σ tg R) X.xe s1 := by
  obtain ⟨xs, hq⟩ := hs
  subst e
  cases r1
  obtain ⟨its, rv, p, hz⟩ := I1.list hq
  refine wpAny_pyIter_list p.isList ?_
  refine ⟨s1.heap.objs.size, [s1.heap.objs.size], _, _, H1, rfl, I1.kept (t' := s1.toks) fun b o e => Heap.get?_push_of_some _ e, turn_list a _, ⟨_, Heap.get?_push_size _ rfl, rfl, rfl⟩, fun b hb => ?_, q⟩
  have e : b = s1.heap.objs.size := by simpa using hb
  subst e
  exact I1.fpOk (Nat.le_refl _) (I1.hok.fresh (Nat.le_refl _))
theorem pi_tupV {X : Cx} {tg : Expr} {pins : List (Addr × Obj)} {s1 : Shared} {σ : L2.St} {H1 : Hp} {R : L2.It → Hp → Prop} {v : Value} {y : V} {a : Addr} (I1 : Inv X pins σ H1 s1) (r1 : RelV y v) (e : y = .ref a) (hs : ∃ xs, SqT X.K H1 a xs) (q : R (Itt X.K a) H1) :
    wpAny (model X.prog X.w) X.A (pyIter v) (PIE X pins σ tg R) X.xe s1 := by
  obtain ⟨xs, hq⟩ := hs
  subst e
  cases r1
  obtain ⟨its, rv, p, hz⟩ := I1.tuple hq
  refine wpAny_pyIter_tuple (show s1.heap.IsTuple a its.toArray from p) ?_
  refine ⟨s1.heap.objs.size, [s1.heap.objs.size], _, _, H1, rfl, I1.kept (t' := s1.toks) fun b o e => Heap.get?_push_of_some _ e, turn_tuple a _, ⟨_, Heap.get?_push_size _ rfl, rfl, rfl⟩, fun b hb => ?_, q⟩
  have e : b = s1.heap.objs.size := by simpa using hb
  subst e
  exact I1.fpOk (Nat.le_refl _) (I1.hok.fresh (Nat.le_refl _))
mutual
theorem sE : ∀ (e : E) {X : Cx} {sc : Scope} {own : Str → Bool} {G : Gh}, Ctx X cc sc own G cl gl → ∀ (x : Expr), chkE cc e sc own x = true → ∀ o, PE X x (T X.K G cl gl o e)
  | .var i, X, sc, own, G, C, x, h, o => by
    cases x <;> simp only [chkE, Bool.and_eq_true, decide_eq_true_eq, Bool.false_eq_true] at h
    obtain ⟨⟨h1, h2⟩, h3⟩ := h
    exact (pe_var (by rw [C.N]; exact h1) (vis_of C h2) (okName_of h3).1 (okName_of h3).2).weak fun σ H Q => T_var
  | .bor i, X, sc, own, G, C, x, h, o => by
    cases x <;> simp only [chkE, Bool.and_eq_true, decide_eq_true_eq, Bool.false_eq_true] at h
    obtain ⟨⟨h1, h2⟩, h3⟩ := h
    exact (pe_var (by rw [C.N]; exact h1) (vis_of C h2) (okName_of h3).1 (okName_of h3).2).weak fun σ H Q => T_bor
  | .glob i, X, sc, own, G, C, x, h, o => by
    cases x <;> simp only [chkE, Bool.and_eq_true, decide_eq_true_eq, Bool.false_eq_true] at h
    obtain ⟨⟨h1, h2⟩, h3⟩ := h
    obtain ⟨u, v, d, g1, g2, g3, g4⟩ := C.gls i _ h1
    exact (pe_glob (gl_of C h2) g1 g2 (okName_of h3).1).weak fun σ H Q => T_glob g3 g4
  | .const c, X, sc, own, G, C, x, h, o => by
    simp only [chkE] at h
    obtain ⟨h1, h2⟩ := isConst_pe (X := X) h
    exact h2.weak fun σ H Q => T_const h1
  | .bin op a b, X, sc, own, G, C, x, h, o => by
    cases x <;> simp only [chkE, Bool.and_eq_true, decide_eq_true_eq, Bool.false_eq_true] at h
    obtain ⟨⟨h1, h2⟩, h3⟩ := h
    subst h1
    exact (pe_op (opBin op) (sE a C _ h2 true) (sE b C _ h3 true)).weak fun σ H Q => T_bin
  | .neg a, X, sc, own, G, C, x, h, o => by
    cases x <;> simp only [chkE, Bool.false_eq_true] at h
    split at h
    · rename_i q; cases q
      exact (pe_un un_neg (sE a C _ h false)).weak fun σ H Q => T_neg
    · cases h
  | .not a, X, sc, own, G, C, x, h, o => by
    cases x <;> simp only [chkE, Bool.false_eq_true] at h
    split at h
    · rename_i q; cases q
      exact (pe_not (sE a C _ h false)).weak fun σ H Q => T_not
    · cases h
  | .and a b, X, sc, own, G, C, x, h, o => by
    simp only [chkE] at h
    split at h
    · rw [Bool.and_eq_true] at h
      obtain ⟨h1, h2⟩ := h
      split at h2
      · exact (pe_and (sE a C _ h1 false) (pe_one (sE b C _ h2 false))).weak fun σ H Q => T_and
      · exact (pe_and (sE a C _ h1 false) (sE b C _ h2 false)).weak fun σ H Q => T_and
    · cases h
  | .or a b, X, sc, own, G, C, x, h, o => by
    simp only [chkE] at h
    split at h
    · rw [Bool.and_eq_true] at h
      obtain ⟨h1, h2⟩ := h
      split at h2
      · exact (pe_or (sE a C _ h1 false) (pe_one (sE b C _ h2 false))).weak fun σ H Q => T_or
      · exact (pe_or (sE a C _ h1 false) (sE b C _ h2 false)).weak fun σ H Q => T_or
    · cases h
  | .cmp op a b, X, sc, own, G, C, x, h, o => by
    simp only [chkE] at h
    split at h
    · simp only [Bool.and_eq_true, decide_eq_true_eq] at h
      obtain ⟨⟨⟨h1, h2⟩, h3⟩, h4⟩ := h
      subst h1
      exact (pe_cmpR (opCmp C.units op) (sE a C _ h3 true) (sE b C _ h4 true) (behind_of h2)).weak fun σ H Q => T_cmp
    · cases h
  | .isN yes a, X, sc, own, G, C, x, h, o => by
    simp only [chkE] at h
    split at h
    · simp only [Bool.and_eq_true, decide_eq_true_eq] at h
      obtain ⟨h1, h2⟩ := h
      subst h1
      cases yes with
      | true => exact (pe_cmp (pc_isN (sE a C _ h2 false)) rfl).weak fun σ H Q => T_isN
      | false => exact (pe_cmp (pc_notN (sE a C _ h2 false)) rfl).weak fun σ H Q => T_isN
    · cases h
  | .chain p q a b c, X, sc, own, G, C, x, h, o => by
    simp only [chkE] at h
    split at h
    · simp only [Bool.and_eq_true, decide_eq_true_eq] at h
      obtain ⟨⟨⟨⟨⟨h1, h2⟩, h3⟩, h4⟩, h5⟩, h6⟩ := h
      subst h1 h2
      exact (pe_chain (opCmp C.units p) (opCmp C.units q) (sE a C _ h4 true) (sE b C _ h5 true) (sE c C _ h6 true) (behind_of h3)).weak fun σ H Q => T_chain
    · cases h
  | .chain3 p q w a b c d, X, sc, own, G, C, x, h, o => by
    simp only [chkE] at h
    split at h
    · simp only [Bool.and_eq_true, decide_eq_true_eq] at h
      obtain ⟨⟨⟨⟨⟨⟨⟨h1, h2⟩, h2'⟩, h3⟩, h4⟩, h5⟩, h6⟩, h7⟩ := h
      subst h1 h2 h2'
      exact (pe_chain3 (opCmp C.units p) (opCmp C.units q) (opCmp C.units w) (sE a C _ h4 true) (sE b C _ h5 true) (sE c C _ h6 true) (sE d C _ h7 true) (behind_of h3)).weak fun σ H Q => T_chain3
    · cases h
  | .ite c a b, X, sc, own, G, C, x, h, o => by
    cases x <;> simp only [chkE, Bool.and_eq_true, Bool.false_eq_true] at h
    obtain ⟨⟨h1, h2⟩, h3⟩ := h
    exact (pe_ifExp (sT c C _ h1) (sE a C _ h2 false) (sE b C _ h3 false)).weak fun σ H Q => T_ite
  | .tup es, X, sc, own, G, C, x, h, o => by
    cases x <;> simp only [chkE, Bool.false_eq_true] at h
    exact (TupN.pe_tupN (sEs es C _ h)).weak fun σ H Q => T_tup
  | .lst es, X, sc, own, G, C, x, h, o => by
    cases x <;> simp only [chkE, Bool.false_eq_true] at h
    exact (pe_lst (sEs es C _ h)).weak fun σ H Q => T_lst
  | .idx a b, X, sc, own, G, C, x, h, o => by
    cases x <;> simp only [chkE, Bool.and_eq_true, Bool.false_eq_true] at h
    obtain ⟨⟨h1, h2⟩, h3⟩ := h
    exact (pe_ix ix_seq (sE a C _ h2 true) (sE b C _ h3 false) (ix_plain h1)).weak fun σ H Q => T_idx
  | .dget a b, X, sc, own, G, C, x, h, o => by
    cases x <;> simp only [chkE, Bool.and_eq_true, Bool.false_eq_true] at h
    obtain ⟨⟨h1, h2⟩, h3⟩ := h
    exact (pe_dget (by have := C.units; omega) (sE a C _ h2 true) (sE b C _ h3 false) (ix_nosl h1)).weak fun σ H Q => T_dget
  | .din yes k d, X, sc, own, G, C, x, h, o => by
    simp only [chkE] at h
    split at h
    · simp only [Bool.and_eq_true, decide_eq_true_eq] at h
      obtain ⟨⟨⟨h1, h2⟩, h3⟩, h4⟩ := h
      subst h1
      cases yes with
      | true => exact (pe_cmp (pc_din (by have := C.units; omega) (sE k C _ h3 false) (sE d C _ h4 true)) (behind_of h2)).weak fun σ H Q => T_din
      | false => exact (pe_cmp (pc_dnotin (by have := C.units; omega) (sE k C _ h3 false) (sE d C _ h4 true)) (behind_of h2)).weak fun σ H Q => T_din
    · cases h
  | .slice a lo hi, X, sc, own, G, C, x, h, o => by
    simp only [chkE] at h
    split at h
    · simp only [Bool.and_eq_true] at h
      obtain ⟨⟨h1, h2⟩, h3⟩ := h
      exact (pe_slice sl_2 (sE a C _ h1 true) (sP lo C _ h2) (sP hi C _ h3)).weak fun σ H Q => T_slice
    · cases h
  | .bi b a, X, sc, own, G, C, x, h, o => by
    simp only [chkE] at h
    split at h
    · rename_i n l q
      obtain ⟨p, pos, rfl⟩ := callOf_eq q
      simp only [Bool.and_eq_true, decide_eq_true_eq] at h
      obtain ⟨⟨⟨h1, h2⟩, h3⟩, h4⟩ := h
      subst h1
      exact (pe_bi C.calm b (gl_of C h2) (C.blt _ (by cases b <;> decide +kernel)) (sE a C _ h4 true) (star_cons h3)).weak fun σ H Q => T_bi
    · cases h
  | .two mx a b, X, sc, own, G, C, x, h, o => by
    simp only [chkE] at h
    split at h
    · rename_i n l r q
      obtain ⟨p, pos, rfl⟩ := callOf_eq q
      simp only [Bool.and_eq_true, decide_eq_true_eq] at h
      obtain ⟨⟨⟨⟨⟨h1, h2⟩, h3⟩, h4⟩, h5⟩, h6⟩ := h
      subst h1
      cases mx with
      | true => exact (pe_callB (call_max2 C.calm) (gl_of C h2) (C.blt _ (by decide +kernel)) (by decide +kernel) (pa_cons (sE a C _ h5 false) (pa_cons (sE b C _ h6 false) pa_nil (star_cons h4)) (star_cons h3)) (hn := by decide) (hdb := by decide) (he := star_cons h3) (hpl := star_any (by rw [List.all_cons, h4]; rfl))).weak fun σ H Q => T_two
      | false => exact (pe_callB (call_min2 C.calm) (gl_of C h2) (C.blt _ (by decide +kernel)) (by decide +kernel) (pa_cons (sE a C _ h5 false) (pa_cons (sE b C _ h6 false) pa_nil (star_cons h4)) (star_cons h3)) (hn := by decide) (hdb := by decide) (he := star_cons h3) (hpl := star_any (by rw [List.all_cons, h4]; rfl))).weak fun σ H Q => T_two
    · cases h
  | .inst a t, X, sc, own, G, C, x, h, o => by
    simp only [chkE] at h
    split at h
    · rename_i n l y py q
      obtain ⟨p, pos, rfl⟩ := callOf_eq q
      simp only [Bool.and_eq_true, decide_eq_true_eq] at h
      obtain ⟨⟨⟨⟨⟨⟨h1, h2⟩, h3⟩, h4⟩, h5⟩, h6⟩, h7⟩ := h
      subst h1 h6
      have hb : Str.ofString t ∈ bltB ∧ bootBuiltins (Str.ofString t) = some (.type t) ∧ Str.ofString t ≠ "__name__" ∧ (Str.ofString t == ("__debug__" : Str)) = false := by
        unfold askTy at h5
        simp only [Bool.or_eq_true, beq_iff_eq] at h5
        rcases h5 with (((h | h) | h) | h) | h <;> subst h <;> refine ⟨by decide +kernel, by decide +kernel, by decide +kernel, by decide +kernel⟩
      exact (pe_callB call_isi (gl_of C h2) (C.blt _ (by decide +kernel)) (by decide +kernel) (pa_cons (sE a C _ h4 true) (pa_cons (pe_bltn (v := .ty t) (gl_of C h7) (C.blt _ hb.1) hb.2.1 rfl hb.2.2.1 hb.2.2.2) pa_nil rfl) (star_cons h3)) (hn := by decide) (hdb := by decide) (he := star_cons h3) (hpl := star_any rfl)).weak fun σ H Q => T_inst h5
    · cases h
  | .bits a, X, sc, own, G, C, x, h, o => by
    simp only [chkE] at h
    split at h
    · simp only [Bool.and_eq_true, decide_eq_true_eq] at h
      obtain ⟨⟨⟨h1, h2⟩, h3⟩, h4⟩ := h
      subst h1
      exact (pe_bits (sE a C _ h4 false) (base_plain h3) (by rw [beq_iff_eq]; exact h2)).weak fun σ H Q => T_bits
    · cases h
  | .call f es, X, sc, own, G, C, x, h, o => by
    simp only [chkE] at h
    split at h
    · rename_i n l ls m k q1 q2
      obtain ⟨p, pos, rfl⟩ := callOf_eq q1
      simp only [Bool.and_eq_true, decide_eq_true_eq] at h
      obtain ⟨⟨⟨h1, h2⟩, h3⟩, h4⟩ := h
      subst h1
      obtain ⟨g0, kk, fa, fd, ps, g1, g2, g3, g4, g5⟩ := C.calls f _ _ q2
      exact (pe_call' g1 g2 (gl_of C h2) g3 g4 g5 .nil C.pass (sAs es C _ h4) (okName_of h3).1 (all_star (X := X) (xs := []) (G := G) h4)).weak fun σ H Q => T_call g0
    · cases h
  | .comp ol tg it c e, X, sc, own, G, C, x, h, o => by
    simp only [chkE] at h
    split at h
    · rename_i elt t i ifs k scope pos
      simp only [Bool.and_eq_true, decide_eq_true_eq] at h
      obtain ⟨⟨⟨⟨⟨⟨⟨h1, h2⟩, h3⟩, h4⟩, h5⟩, h6⟩, h7⟩, h8⟩ := h
      subst h1
      refine (pe_lc (own := ol) (g := gOf X.K tg) (tt := TIf X.K { G with E := E0 } cl gl c) (te := T X.K { G with E := E0 } cl gl false e) C.calm C.nd (sI it C _ _ h5 true) (by rw [C.N, C.scope]; exact blkOk_by h2) (fun s H L cs fp => sTg (C.blk s H scope cs L fp) tg _ h6) (fun s H L cs fp => sC c (C.blk s H scope cs L fp) _ h7) (fun s H L cs fp => sE e (C.blk s H scope cs L fp) _ h8 false) (iter_plain h4)).weak fun σ H Q => ?_
      exact T_comp ⟨rfl, rfl, rfl⟩ h3
    · cases h
  | .repr a, X, sc, own, G, C, x, h, o => by
    simp only [chkE] at h
    split at h
    · rename_i n l q
      obtain ⟨p, pos, rfl⟩ := callOf_eq q
      simp only [Bool.and_eq_true, decide_eq_true_eq] at h
      obtain ⟨⟨⟨⟨h0, h1⟩, h2⟩, h3⟩, h4⟩ := h
      subst h1
      exact (pe_callB (call_reprD (C.gd h0) C.units) (gl_of C h2) (C.blt _ (by decide +kernel)) (by decide +kernel) (pa_cons (sE a C _ h4 false) pa_nil (star_cons h3)) (hn := by decide) (hdb := by decide) (he := star_cons h3) (hpl := star_any rfl)).weak fun σ H Q => T_repr
    · cases h
  | .sset a, X, sc, own, G, C, x, h, o => by
    simp only [chkE] at h
    split at h
    · rename_i n p1 m p2 l pos2 pos
      simp only [Bool.and_eq_true, decide_eq_true_eq] at h
      obtain ⟨⟨⟨⟨⟨h1, h2⟩, h3⟩, h4⟩, h5⟩, h6⟩ := h
      subst h1 h2
      exact (pe_alt (pe_callB (cr_sortedSet C.calm) (gl_of C h3) (C.blt _ (by decide +kernel)) (by decide +kernel) (pa_cons (pe_callTy (cr_setTI C.calm) (gl_of C h4) (C.blt _ (by decide +kernel)) (by decide +kernel) (pa_cons (sE a C _ h6 true) pa_nil (star_cons h5)) (hn := by decide) (hdb := by decide) (he := star_cons h5) (hpl := star_any rfl)) pa_nil rfl) (hn := by decide) (hdb := by decide) (he := rfl) (hpl := star_any rfl))
        (pe_callB (cr_sortedT C.calm) (gl_of C h3) (C.blt _ (by decide +kernel)) (by decide +kernel) (pa_cons (pe_callTy (cr_setOfT C.calm (by have := C.units; omega)) (gl_of C h4) (C.blt _ (by decide +kernel)) (by decide +kernel) (pa_cons (sE a C _ h6 true) pa_nil (star_cons h5)) (hn := by decide) (hdb := by decide) (he := star_cons h5) (hpl := star_any rfl)) pa_nil rfl) (hn := by decide) (hdb := by decide) (he := rfl) (hpl := star_any rfl))).weak fun σ H Q => T_sset X.prog X.w
    · cases h
  | .emp .., X, sc, own, G, C, x, h, o => by simp [chkE] at h
  | .index a b, X, sc, own, G, C, x, h, o => by
    simp only [chkE] at h
    split at h
    · simp only [Bool.and_eq_true, decide_eq_true_eq] at h
      obtain ⟨⟨⟨⟨⟨h1, h2⟩, h3⟩, h4⟩, h5⟩, h6⟩ := h
      subst h1
      refine (TupN.pe_index (sE a C _ h5 true) (pa_cons (sE b C _ h6 false) pa_nil (star_cons h4)) (base_plain h3) ?_ (by rw [beq_iff_eq]; exact h2) (star_cons h4) (star_any rfl)).weak fun σ H Q => T_index
      rw [star_cons h4]; rfl
    · cases h
  | .dlit ks es, X, sc, own, G, C, x, h, o => by
    cases x <;> simp only [chkE, Bool.false_eq_true] at h
    rename_i keys values pos
    simp only [Bool.and_eq_true, decide_eq_true_eq] at h
    obtain ⟨⟨⟨⟨⟨h1, h2⟩, h3⟩, h4⟩, h5⟩, h6⟩ := h
    obtain ⟨g1, g2⟩ := chkKs_all h1
    exact (pe_disp (sDs es C ks keys values pos h1 h4 h6) g1 (by omega) (fun z => h2 (by
      rw [z] at g2
      exact List.eq_nil_of_length_eq_zero g2.symm)) (by omega)).weak fun σ H Q => T_dlit h4
  | .quant al (.seq e) q, X, sc, own, G, C, x, h, o => by
    simp only [chkE] at h
    split at h
    · rename_i n p1 elt y py i k scope gpos pos
      simp only [Bool.and_eq_true, decide_eq_true_eq] at h
      obtain ⟨⟨⟨⟨⟨⟨⟨h1, h2⟩, h3⟩, h4⟩, h5⟩, h6⟩, h7⟩, h8⟩ := h
      subst h2
      have h3 : n = qn al := h3
      subst h3
      obtain ⟨c, Pt, kk, g1, g2, g3, g4⟩ := C.gen h1
      unfold genB at h5
      simp only [Bool.and_eq_true, decide_eq_true_eq, Bool.not_eq_true', List.all_eq_true, Bool.or_eq_true] at h5
      obtain ⟨⟨⟨⟨⟨j1, j2⟩, j3⟩, j4⟩, j5⟩, j6⟩ := h5
      have hb : qn al ∈ bltB := by cases al <;> decide +kernel
      exact (pe_quant g4 (gl_of C h4) (C.blt _ hb) g1 g2 j1 j2 j3 j4 j5 (fun z hz e' => by rw [C.scope]; exact (j6 z hz).resolve_left fun w => w e') (sE e C _ h7 true) (by rw [C.N]; exact h8) (fold_plain h6)).weak fun σ H Q => T_quant g3
    · cases h
  | .quant al (.rng1 ..) q, X, sc, own, G, C, x, h, o => by simp [chkE] at h
  | .quant al (.rng2 ..) q, X, sc, own, G, C, x, h, o => by simp [chkE] at h
  | .quant al (.rng3 ..) q, X, sc, own, G, C, x, h, o => by simp [chkE] at h
  | .quant al (.enum ..) q, X, sc, own, G, C, x, h, o => by simp [chkE] at h
  | .quant al (.zip ..) q, X, sc, own, G, C, x, h, o => by simp [chkE] at h
  | .quant al (.rev ..) q, X, sc, own, G, C, x, h, o => by simp [chkE] at h
  | .comp2 .., X, sc, own, G, C, x, h, o => by simp [chkE] at h
theorem sT : ∀ (e : E) {X : Cx} {sc : Scope} {own : Str → Bool} {G : Gh}, Ctx X cc sc own G cl gl → ∀ (x : Expr), chkT cc e sc own x = true → PT X x (TTe X.K G cl gl e)
  | .and a b, X, sc, own, G, C, x, h => by
    simp only [chkT] at h
    split at h
    · rw [Bool.and_eq_true] at h
      obtain ⟨h1, h2⟩ := h
      split at h2
      · exact (PW.pt (pw_and (sT a C _ h1) (pw_and1 (sT b C _ h2)))).weak fun σ H Q => TT_and
      · exact (PW.pt (pw_and (sT a C _ h1) (pw_of (sT b C _ h2)))).weak fun σ H Q => TT_and
    · cases h
  | .or a b, X, sc, own, G, C, x, h => by
    simp only [chkT] at h
    split at h
    · rw [Bool.and_eq_true] at h
      obtain ⟨h1, h2⟩ := h
      split at h2
      · exact (PW.pt (pw_or (sT a C _ h1) (pw_or1 (sT b C _ h2)))).weak fun σ H Q => TT_or
      · exact (PW.pt (pw_or (sT a C _ h1) (pw_of (sT b C _ h2)))).weak fun σ H Q => TT_or
    · cases h
  | .not a, X, sc, own, G, C, x, h => by
    simp only [chkT] at h
    split at h
    · exact (pt_not (sT a C _ h)).weak fun σ H Q => TT_not
    · cases h
  | .cmp op a b, X, sc, own, G, C, x, h => by
    simp only [chkT] at h
    split at h
    · simp only [Bool.and_eq_true, decide_eq_true_eq] at h
      obtain ⟨⟨⟨h1, h2⟩, h3⟩, h4⟩ := h
      subst h1
      exact (pt_cmpR (opCmp C.units op) (sE a C _ h3 true) (sE b C _ h4 true) (behind_of h2)).weak fun σ H Q q => T_cmp (TTe_of q)
    · cases h
  | .isN yes a, X, sc, own, G, C, x, h => by
    simp only [chkT] at h
    split at h
    · simp only [Bool.and_eq_true, decide_eq_true_eq] at h
      obtain ⟨h1, h2⟩ := h
      subst h1
      cases yes with
      | true => exact (pt_cmp (pc_isN (sE a C _ h2 false)) rfl).weak fun σ H Q q => T_isN (yes := true) (TTe_of q)
      | false => exact (pt_cmp (pc_notN (sE a C _ h2 false)) rfl).weak fun σ H Q q => T_isN (yes := false) (TTe_of q)
    · cases h
  | .chain p q a b c, X, sc, own, G, C, x, h => by
    simp only [chkT] at h
    split at h
    · simp only [Bool.and_eq_true, decide_eq_true_eq] at h
      obtain ⟨⟨⟨⟨⟨h1, h2⟩, h3⟩, h4⟩, h5⟩, h6⟩ := h
      subst h1 h2
      exact (pt_chain (opCmp C.units p) (opCmp C.units q) (sE a C _ h4 true) (sE b C _ h5 true) (sE c C _ h6 true) (behind_of h3)).weak fun σ H Q q => T_chain (TTe_of q)
    · cases h
  | .chain3 p q w a b c d, X, sc, own, G, C, x, h => by
    simp only [chkT] at h
    split at h
    · simp only [Bool.and_eq_true, decide_eq_true_eq] at h
      obtain ⟨⟨⟨⟨⟨⟨⟨h1, h2⟩, h2'⟩, h3⟩, h4⟩, h5⟩, h6⟩, h7⟩ := h
      subst h1 h2 h2'
      exact (pt_chain3 (opCmp C.units p) (opCmp C.units q) (opCmp C.units w) (sE a C _ h4 true) (sE b C _ h5 true) (sE c C _ h6 true) (sE d C _ h7 true) (behind_of h3)).weak fun σ H Q q => T_chain3 (TTe_of q)
    · cases h
  | .din yes k d, X, sc, own, G, C, x, h => by
    simp only [chkT] at h
    split at h
    · simp only [Bool.and_eq_true, decide_eq_true_eq] at h
      obtain ⟨⟨⟨h1, h2⟩, h3⟩, h4⟩ := h
      subst h1
      cases yes with
      | true => exact (pt_cmp (pc_din (by have := C.units; omega) (sE k C _ h3 false) (sE d C _ h4 true)) (behind_of h2)).weak fun σ H Q q => T_din (yes := true) (TTe_of q)
      | false => exact (pt_cmp (pc_dnotin (by have := C.units; omega) (sE k C _ h3 false) (sE d C _ h4 true)) (behind_of h2)).weak fun σ H Q q => T_din (yes := false) (TTe_of q)
    · cases h
  | .var i, X, sc, own, G, C, x, h => by
    have h' : chkE cc (.var i) sc own x = true := by simpa only [chkE, chkT] using h
    refine (pt_val (sE (.var i) C x h' false) (test_plain ?_)).weak fun σ H Q => TTe_of
    cases x <;> first | rfl | simp [chkT] at h
  | .inst a t, X, sc, own, G, C, x, h => by
    have h' : chkE cc (.inst a t) sc own x = true := by simpa only [chkE, chkT] using h
    refine (pt_val (sE (.inst a t) C x h' false) (test_plain ?_)).weak fun σ H Q => TTe_of
    cases x <;> first | rfl | simp [chkT, callOf] at h
  | .bi b a, X, sc, own, G, C, x, h => by
    have h' : chkE cc (.bi b a) sc own x = true := by simpa only [chkE, chkT] using h
    refine (pt_val (sE (.bi b a) C x h' false) (test_plain ?_)).weak fun σ H Q => TTe_of
    cases x <;> first | rfl | simp [chkT, callOf] at h
  | .call f es, X, sc, own, G, C, x, h => by
    have h' : chkE cc (.call f es) sc own x = true := by simpa only [chkE, chkT] using h
    refine (pt_val (sE (.call f es) C x h' false) (test_plain ?_)).weak fun σ H Q => TTe_of
    cases x <;> first | rfl | simp [chkT, callOf] at h
  | .idx a b, X, sc, own, G, C, x, h => by
    have h' : chkE cc (.idx a b) sc own x = true := by simpa only [chkE, chkT] using h
    refine (pt_val (sE (.idx a b) C x h' false) (test_plain ?_)).weak fun σ H Q => TTe_of
    cases x <;> first | rfl | simp [chkT] at h
  | .bor .., X, sc, own, G, C, x, h => by simp [chkT] at h
  | .glob .., X, sc, own, G, C, x, h => by simp [chkT] at h
  | .const .., X, sc, own, G, C, x, h => by simp [chkT] at h
  | .bin .., X, sc, own, G, C, x, h => by simp [chkT] at h
  | .neg .., X, sc, own, G, C, x, h => by simp [chkT] at h
  | .ite .., X, sc, own, G, C, x, h => by simp [chkT] at h
  | .tup .., X, sc, own, G, C, x, h => by simp [chkT] at h
  | .lst .., X, sc, own, G, C, x, h => by simp [chkT] at h
  | .dget .., X, sc, own, G, C, x, h => by simp [chkT] at h
  | .slice .., X, sc, own, G, C, x, h => by simp [chkT] at h
  | .two .., X, sc, own, G, C, x, h => by simp [chkT] at h
  | .bits .., X, sc, own, G, C, x, h => by simp [chkT] at h
  | .emp yes a, X, sc, own, G, C, x, h => by
    cases yes with
    | true =>
      simp only [chkT] at h
      split at h
      · simp only [Bool.and_eq_true] at h
        exact (pt_not (pt_truth (sE a C _ h.2 true) (test_plain h.1))).weak fun σ H Q => TT_emp
      · exact absurd ‹true = false› (by decide)
      · cases h
    | false =>
      simp only [chkT, Bool.and_eq_true] at h
      exact (pt_truth (sE a C _ h.2 true) (test_plain h.1)).weak fun σ H Q => TT_full
  | .comp .., X, sc, own, G, C, x, h => by simp [chkT] at h
  | .sset .., X, sc, own, G, C, x, h => by simp [chkT] at h
  | .repr .., X, sc, own, G, C, x, h => by simp [chkT] at h
  | .index .., X, sc, own, G, C, x, h => by simp [chkT] at h
  | .dlit .., X, sc, own, G, C, x, h => by simp [chkT] at h
  | .quant al (.seq e) q, X, sc, own, G, C, x, h => by
    have h' : chkE cc (.quant al (.seq e) q) sc own x = true := by simpa only [chkE, chkT] using h
    refine (pt_val (sE (.quant al (.seq e) q) C x h' false) (test_plain ?_)).weak fun σ H Q => TTe_of
    simp only [chkE] at h'
    split at h'
    · rfl
    · cases h'
  | .quant al (.rng1 ..) q, X, sc, own, G, C, x, h => by simp [chkT] at h
  | .quant al (.rng2 ..) q, X, sc, own, G, C, x, h => by simp [chkT] at h
  | .quant al (.rng3 ..) q, X, sc, own, G, C, x, h => by simp [chkT] at h
  | .quant al (.enum ..) q, X, sc, own, G, C, x, h => by simp [chkT] at h
  | .quant al (.zip ..) q, X, sc, own, G, C, x, h => by simp [chkT] at h
  | .quant al (.rev ..) q, X, sc, own, G, C, x, h => by simp [chkT] at h
  | .comp2 .., X, sc, own, G, C, x, h => by simp [chkT] at h
theorem sP : ∀ (e : OE) {X : Cx} {sc : Scope} {own : Str → Bool} {G : Gh}, Ctx X cc sc own G cl gl → ∀ (x : Option Expr), chkP cc e sc own x = true → PO X x (TPart X.K G cl gl e)
  | .none, X, sc, own, G, C, x, h => by
    cases x with
    | none => exact po_none.weak fun σ H Q => T_noPart
    | some x => simp [chkP] at h
  | .some e, X, sc, own, G, C, x, h => by
    cases x with
    | none => simp [chkP] at h
    | some x => exact (po_some (sE e C x (by simpa only [chkP] using h) false)).weak fun σ H Q => T_part
theorem sC : ∀ (e : OE) {X : Cx} {sc : Scope} {own : Str → Bool} {G : Gh}, Ctx X cc sc own G cl gl → ∀ (x : List Expr), chkC cc e sc own x = true → PTs X x (TIf X.K G cl gl e)
  | .none, X, sc, own, G, C, x, h => by
    simp only [chkC, List.isEmpty_iff] at h
    subst h
    exact pts_nil.weak fun σ H Q => TIf_none
  | .some e, X, sc, own, G, C, x, h => by
    simp only [chkC] at h
    split at h
    · exact (pts_one (sT e C _ h)).weak fun σ H Q => TIf_some
    · cases h
theorem sEs : ∀ (es : Es) {X : Cx} {sc : Scope} {own : Str → Bool} {G : Gh}, Ctx X cc sc own G cl gl → ∀ (xs : List Expr), chkEs cc es sc own xs = true → PA X xs (TAs X.K G cl gl es)
  | .nil, X, sc, own, G, C, xs, h => by
    simp only [chkEs, List.isEmpty_iff] at h
    subst h
    exact pa_nil.weak fun σ H Q => T_nil
  | .cons e es, X, sc, own, G, C, xs, h => by
    cases xs with
    | nil => simp [chkEs] at h
    | cons x xs =>
      simp only [chkEs, Bool.and_eq_true] at h
      exact (pa_cons (sE e C x h.1.2 false) (sEs es C xs h.2) (star_cons h.1.1)).weak fun σ H Q => T_cons
theorem sDs : ∀ (es : Es) {X : Cx} {sc : Scope} {own : Str → Bool} {G : Gh}, Ctx X cc sc own G cl gl → ∀ (ks : List Str) (keys : List (Option Expr)) (xs : List Expr) (pos : Pos), chkKs ks keys = true → esLen es = ks.length → chkEs cc es sc own xs = true → PPs X pos keys xs (trsOf X.K G cl gl ks es)
  | .nil, X, sc, own, G, C, ks, keys, xs, pos, hk, hl, h => by
    simp only [chkEs, List.isEmpty_iff] at h
    subst h
    cases ks with
    | nil =>
      cases keys with
      | nil => exact pps_nil
      | cons _ _ => simp [chkKs] at hk
    | cons _ _ => cases hl
  | .cons e es, X, sc, own, G, C, ks, keys, xs, pos, hk, hl, h => by
    cases xs with
    | nil => simp [chkEs] at h
    | cons x xs =>
      simp only [chkEs, Bool.and_eq_true] at h
      cases ks with
      | nil => cases hl
      | cons k ks =>
        cases keys with
        | nil => simp [chkKs] at hk
        | cons y ys =>
          obtain ⟨⟨j, p, rfl⟩, hk2⟩ := chkKs_cons hk
          exact pps_cons pe_str (sE e C x h.1.2 false) (sDs es C ks ys xs pos hk2 (Nat.succ.inj hl) h.2)
theorem sAs : ∀ (es : Es) {X : Cx} {sc : Scope} {own : Str → Bool} {G : Gh}, Ctx X cc sc own G cl gl → ∀ (xs : List Expr), chkAs cc es sc own xs = true → PA X xs (TArgs X.K G cl gl es)
  | .nil, X, sc, own, G, C, xs, h => by
    simp only [chkAs, List.isEmpty_iff] at h
    subst h
    exact pa_nil.weak fun σ H Q => TA_nil
  | .cons e es, X, sc, own, G, C, xs, h => by
    cases xs with
    | nil => simp [chkAs] at h
    | cons x xs =>
      simp only [chkAs, Bool.and_eq_true] at h
      obtain ⟨⟨h1, h2⟩, h3⟩ := h
      cases hb : isBor e with
      | false => exact (pa_cons (sE e C x h2 false) (sAs es C xs h3) (star_cons h1)).weak fun σ H Q => TA_cons hb
      | true =>
        cases e <;> simp only [isBor, Bool.false_eq_true] at hb
        cases x <;> simp only [chkE, Bool.and_eq_true, decide_eq_true_eq, Bool.false_eq_true] at h2
        obtain ⟨⟨g1, g2⟩, g3⟩ := h2
        exact (pa_cons (pe_var (by rw [C.N]; exact g1) (vis_of C g2) (okName_of g3).1 (okName_of g3).2) (sAs es C xs h3) (star_cons h1)).weak fun σ H Q => TA_bor
theorem sI : ∀ (it : It) {X : Cx} {sc : Scope} {own : Str → Bool} {G : Gh}, Ctx X cc sc own G cl gl → ∀ (t x : Expr), chkI cc it sc own t x = true → ∀ o, PI X t x (TIt X.K G cl gl o it)
  | .seq e, X, sc, own, G, C, t, x, h, o => by
    have he := sE e C x (by simpa only [chkI] using h) o
    refine ⟨fun pins s σ H R I q => ?_⟩
    refine thn (he.run pins s σ H _ I (I_seq q)) fun v s1 ⟨y, H1, I1, r1, q1⟩ => ?_
    rcases q1 with ⟨a, e1, hs, q1⟩ | ⟨a, e1, hs, q1⟩
    · exact (pi_listV (tg := t)) I1 r1 e1 hs q1
    · exact (pi_tupV (tg := t)) I1 r1 e1 hs q1
  | .rng1 a, X, sc, own, G, C, t, x, h, o => by
    simp only [chkI] at h
    split at h
    · rename_i n l q
      obtain ⟨p, pos, rfl⟩ := callOf_eq q
      simp only [Bool.and_eq_true, decide_eq_true_eq] at h
      obtain ⟨⟨⟨h1, h2⟩, h3⟩, h4⟩ := h
      subst h1
      exact (pi_range1 (gl_of C h2) (C.blt _ (by decide +kernel)) (pa_cons (sE a C _ h4 false) pa_nil (star_cons h3)) (star_cons h3)).weak fun σ H Q => I_rng1
    · cases h
  | .rng2 a b, X, sc, own, G, C, t, x, h, o => by
    simp only [chkI] at h
    split at h
    · rename_i n l r q
      obtain ⟨p, pos, rfl⟩ := callOf_eq q
      simp only [Bool.and_eq_true, decide_eq_true_eq] at h
      obtain ⟨⟨⟨⟨⟨h1, h2⟩, h3⟩, h4⟩, h5⟩, h6⟩ := h
      subst h1
      exact (pi_range2 (gl_of C h2) (C.blt _ (by decide +kernel)) (pa_cons (sE a C _ h5 false) (pa_cons (sE b C _ h6 false) pa_nil (star_cons h4)) (star_cons h3)) (by rw [star_cons h3, star_cons h4]; rfl) (star_cons h4)).weak fun σ H Q => I_rng2
    · cases h
  | .rng3 a b c, X, sc, own, G, C, t, x, h, o => by
    simp only [chkI] at h
    split at h
    · rename_i n l r q' q
      obtain ⟨p, pos, rfl⟩ := callOf_eq q
      simp only [Bool.and_eq_true, decide_eq_true_eq] at h
      obtain ⟨⟨⟨⟨⟨⟨⟨h1, h2⟩, h3⟩, h4⟩, h5⟩, h6⟩, h7⟩, h8⟩ := h
      subst h1
      exact (pi_range3 (gl_of C h2) (C.blt _ (by decide +kernel)) (pa_cons (sE a C _ h6 false) (pa_cons (sE b C _ h7 false) (pa_cons (sE c C _ h8 false) pa_nil (star_cons h5)) (star_cons h4)) (star_cons h3)) (star_cons h3) (star_any (by rw [List.all_cons, List.all_cons, h4, h5]; rfl))).weak fun σ H Q => I_rng3
    · cases h
  | .enum e, X, sc, own, G, C, t, x, h, o => by
    simp only [chkI] at h
    split at h
    · rename_i n l q
      obtain ⟨p, pos, rfl⟩ := callOf_eq q
      simp only [Bool.and_eq_true, decide_eq_true_eq] at h
      obtain ⟨⟨⟨⟨h1, h2⟩, h3⟩, h4⟩, h5⟩ := h
      subst h1
      cases t <;> simp only [isTup, Bool.false_eq_true] at h3
      exact (EnT.pi_enumA (gl_of C h2) (C.blt _ (by decide +kernel)) (pa_cons (sE e C _ h5 o) pa_nil (star_cons h4)) (star_cons h4)).weak fun σ H Q => I_enum
    · cases h
  | .zip a b, X, sc, own, G, C, t, x, h, o => by
    simp only [chkI] at h
    split at h
    · rename_i n l r q
      obtain ⟨p, pos, rfl⟩ := callOf_eq q
      simp only [Bool.and_eq_true, decide_eq_true_eq] at h
      obtain ⟨⟨⟨⟨⟨⟨h1, h2⟩, h3⟩, h4⟩, h5⟩, h6⟩, h7⟩ := h
      subst h1
      cases t <;> simp only [isTup, Bool.false_eq_true] at h3
      exact (RZ.pi_zipA (gl_of C h2) (C.blt _ (by decide +kernel)) (pa_cons (sE a C _ h6 o) (pa_cons (sE b C _ h7 o) pa_nil (star_cons h5)) (star_cons h4)) (star_cons h4) (star_any (by rw [List.all_cons, h5]; rfl))).weak fun σ H Q => I_zip
    · cases h
  | .rev e, X, sc, own, G, C, t, x, h, o => by
    simp only [chkI] at h
    split at h
    · rename_i n l q
      obtain ⟨p, pos, rfl⟩ := callOf_eq q
      simp only [Bool.and_eq_true, decide_eq_true_eq] at h
      obtain ⟨⟨⟨h1, h2⟩, h3⟩, h4⟩ := h
      subst h1
      exact (RT.pi_revA (gl_of C h2) (C.blt _ (by decide +kernel)) (sE e C _ h4 o) (star_cons h3)).weak fun σ H Q => I_rev
    · cases h
end
end
end Eng

end
section
set_option Elab.async false
set_option linter.all false
set_option maxRecDepth 100000
set_option maxHeartbeats 16000000
set_option autoImplicit false
/-! Eng, part J: statements, what they come to, their readings. -/
namespace Eng
open PySem PySem.Spec PyProof.Rows L2

/-- a target of a tuple of stores -/
inductive PT where
  | nm (i : Nat)
  | sub (i : Nat) (k : E)
mutual
inductive S where
  | set (i : Nat) (e : E)
  /-- a new list that this def fills -/
  | setO (i : Nat) (e : E)
  /-- {} -/
  | newD (i : Nat)
  | asg (tg : Tg) (e : E)
  | par (i j : Nat) (a b : E)
  | aug (i : Nat) (sub : Bool) (e : E)
  | put (i : Nat) (k e : E)
  | dput (i : Nat) (k e : E)
  | app (i : Nat) (e : E)
  /-- a[i], x = .., .. -/
  | stores (ts : List PT) (es : Es)
  | ex (e : E)
  | ite (c : E) (a b : Ss)
  | whl (c : E) (b : Ss)
  | for (tg : Tg) (it : It) (b : Ss)
  | ret (e : E)
  | retN
  | pass
  | brk
  | cont
  /-- from here on the list stands still (no statement of the text) -/
  | frz (i : Nat)
inductive Ss where
  | nil
  | cons (s : S) (ss : Ss)
end
inductive Fl where
  | nx (ρ : Env)
  | ret (d : D)
  | brk (ρ : Env)
  | ct (ρ : Env)
def putD (kds : List (Key × D)) (k : Key) (d : D) : List (Key × D) :=
  if (kds.any fun kv => decide (kv.1 = k)) = true then kds.map fun kv => if kv.1 = k then (kv.1, d) else kv else kds ++ [(k, d)]
def whlRun (test : Env → Sta → R Bool) (body : Env → Sta → R Fl) : Nat → Env → Sta → R Fl
  | 0, _, _ => .bad
  | n + 1, ρ, st => (test ρ st).bind fun b st => if b then (body ρ st).bind fun f st => match f with
    | .nx ρ' => whlRun test body n ρ' st
    | .ct ρ' => whlRun test body n ρ' st
    | .brk ρ' => .ok (.nx ρ') st
    | .ret d => .ok (.ret d) st else .ok (.nx ρ) st
def forRun (tg : Tg) (body : Env → Sta → R Fl) : List D → Env → Sta → R Fl
  | [], ρ, st => .ok (.nx ρ) st
  | x :: xs, ρ, st => match bindTg tg x ρ with
    | some ρ1 => (body ρ1 st).bind fun f st => match f with
      | .nx ρ' => forRun tg body xs ρ' st
      | .ct ρ' => forRun tg body xs ρ' st
      | .brk ρ' => .ok (.nx ρ') st
      | .ret d => .ok (.ret d) st
    | none => .bad
def tgNames : Tgs → Option (List Nat)
  | .nil => some []
  | .cons (.name i) ts => (tgNames ts).map (i :: ·)
  | _ => none
/-- how often a while may turn -/
def wf : Nat := 2 ^ 64
theorem wf_eq : wf = 2 ^ 64 := rfl
section
variable (cl : Calls) (gl : List D)
/-- a test -/
def tst (c : E) (ρ : Env) (st : Sta) : R Bool := (ev cl gl ρ false c st).bind fun x st => match x with
  | .bool b => .ok b st
  | _ => .bad
def setV (ρ : Env) (i : Nat) (s : Slot) (st : Sta) : R Fl := if i < ρ.length then .ok (.nx (ρ.set i s)) st else .bad
/-- the values of a tuple, stored from the left -/
def stRun : List PT → List D → Env → Sta → R Fl
  | [], [], ρ, st => .ok (.nx ρ) st
  | .nm i :: ts, d :: ds, ρ, st => if i < ρ.length then stRun ts ds (ρ.set i (.val d)) st else .bad
  | .sub i k :: ts, d :: ds, ρ, st => match ρ[i]? with
    | some (.lst xs) => (ev cl gl ρ false k st).bind fun n st => match n with
      | .int n => match ixN xs.length n with
        | some j => stRun ts ds (ρ.set i (.lst (xs.set j d))) st
        | none => .bad
      | _ => .bad
    | _ => .bad
  | _, _, _, _ => .bad
mutual
def exec : S → Env → Sta → R Fl
  | .stores ts es, ρ, st => (ev cl gl ρ false (.tup es) st).bind fun d st => match d with
    | .tuple ds => if ds.length = ts.length then stRun cl gl ts ds ρ st else .bad
    | _ => .bad
  | .set i e, ρ, st => (ev cl gl ρ false e st).bind fun d st => setV ρ i (.val d) st
  | .setO i e, ρ, st => (ev cl gl ρ false e st).bind fun d st => match d with
    | .list ds => setV ρ i (.lst ds) st
    | _ => .bad
  | .newD i, ρ, st => setV ρ i (.dic []) st
  | .asg tg e, ρ, st => (ev cl gl ρ false e st).bind fun d st => match bindTg tg d ρ with
    | some ρ' => .ok (.nx ρ') st
    | none => .bad
  | .par i j a b, ρ, st => (ev cl gl ρ false a st).bind fun x st => (ev cl gl ρ false b st).bind fun y st =>
      if i < ρ.length ∧ j < ρ.length then .ok (.nx ((ρ.set i (.val x)).set j (.val y))) st else .bad
  | .aug i sub e, ρ, st => match ρ[i]? with
    | some (.val (.int n)) => (ev cl gl ρ false e st).bind fun x st => match x with
      | .int m => .ok (.nx (ρ.set i (.val (.int (if sub then n - m else n + m))))) st
      | _ => .bad
    | _ => .bad
  | .put i k e, ρ, st => match ρ[i]? with
    | some (.lst ds) => (ev cl gl ρ false e st).bind fun d st => (ev cl gl ρ false k st).bind fun n st => match n with
      | .int n => match ixN ds.length n with
        | some j => .ok (.nx (ρ.set i (.lst (ds.set j d)))) st
        | none => .bad
      | _ => .bad
    | _ => .bad
  | .dput i k e, ρ, st => match ρ[i]? with
    | some (.dic kds) => (ev cl gl ρ false e st).bind fun d st => (ev cl gl ρ false k st).bind fun n st => match keyD n with
      | some k => if kds.length < sizeLine then .ok (.nx (ρ.set i (.dic (putD kds k d)))) st else .bad
      | none => .bad
    | _ => .bad
  | .app i e, ρ, st => match ρ[i]? with
    | some (.lst ds) => (ev cl gl ρ false e st).bind fun d st => if ds.length < sizeLine then .ok (.nx (ρ.set i (.lst (ds ++ [d])))) st else .bad
    | _ => .bad
  | .ex e, ρ, st => (ev cl gl ρ false e st).bind fun _ st => .ok (.nx ρ) st
  | .ite c a b, ρ, st => (tst cl gl c ρ st).bind fun k st => if k then execs a ρ st else execs b ρ st
  | .whl c b, ρ, st => whlRun (tst cl gl c) (execs b) wf ρ st
  | .for tg it b, ρ, st => (evIt cl gl ρ false it st).bind fun xs st => forRun tg (execs b) xs ρ st
  | .ret e, ρ, st => (ev cl gl ρ false e st).bind fun d st => .ok (.ret d) st
  | .retN, ρ, st => .ok (.ret .none) st
  | .pass, ρ, st => .ok (.nx ρ) st
  | .brk, ρ, st => .ok (.brk ρ) st
  | .cont, ρ, st => .ok (.ct ρ) st
  | .frz i, ρ, st => match ρ[i]? with
    | some (.lst ds) => .ok (.nx (ρ.set i (.val (.list ds)))) st
    | some (.dic ds) => .ok (.nx (ρ.set i (.val (dictD ds)))) st
    | _ => .ok (.nx ρ) st
def execs : Ss → Env → Sta → R Fl
  | .nil, ρ, st => .ok (.nx ρ) st
  | .cons s ss, ρ, st => (exec s ρ st).bind fun f st => match f with
    | .nx ρ' => execs ss ρ' st
    | f => .ok f st
end
end

/-- what is wanted behind a statement -/
def Fin (K : PySem.W.Frag) (G : Gh) (sa : SA) (F : Hp) (r : R Fl) (N : Ends) : Prop := match r with
  | .ok (.nx ρ') st' => ∀ σ' F' H', Rep K G ρ' sa σ' F' H' st' → Sub F F' → N.nx σ' H'
  | .ok (.ret d) st' => ∀ ρ' σ' F' H' v, Rep K G ρ' sa σ' F' H' st' → Sub F F' → Rp K sa F' v d → N.rt v H'
  | .ok (.brk ρ') st' => ∀ σ' F' H', Rep K G ρ' sa σ' F' H' st' → Sub F F' → N.bk σ' H'
  | .ok (.ct ρ') st' => ∀ σ' F' H', Rep K G ρ' sa σ' F' H' st' → Sub F F' → N.ct σ' H'
  | .exc e st' => ∀ ρ' σ' F' H', Rep K G ρ' sa σ' F' H' st' → Sub F F' → ∀ cls dx, G.xa e cls dx H' → G.E cls dx H'
  | .bad => False
section
variable {K : PySem.W.Frag} {G : Gh} {cl : Calls} {gl : List D} {ρ : Env} {sa : SA} {σ : L2.St} {F H F1 : Hp} {st : Sta} {N : Ends}
theorem Fin.rebase {r : R Fl} (h : Fin K G sa F r N) (s : Sub F F1) : Fin K G sa F1 r N := by
  match r, h with
  | .ok (.nx ρ') st', h => exact fun σ' F' H' R s' => h σ' F' H' R (s.trans s')
  | .ok (.ret d) st', h => exact fun ρ' σ' F' H' v R s' => h ρ' σ' F' H' v R (s.trans s')
  | .ok (.brk ρ') st', h => exact fun σ' F' H' R s' => h σ' F' H' R (s.trans s')
  | .ok (.ct ρ') st', h => exact fun σ' F' H' R s' => h σ' F' H' R (s.trans s')
  | .exc e st', h => exact fun ρ' σ' F' H' R s' => h ρ' σ' F' H' R (s.trans s')
  | .bad, h => exact h
theorem Fin.bind {α : Type} {r : R α} {k : α → Sta → R Fl} (h : Fin K G sa F (r.bind k) N) : P K G ρ sa σ F H r fun a st1 F1 H1 => Fin K G sa F1 (k a st1) N := by
  cases r with
  | ok a st => exact fun F' H' s => Fin.rebase h s.sub
  | exc e st => exact fun F' H' s => h ρ σ F' H' s.rep s.sub
  | bad => exact h
/-- other ends -/
theorem Fin.ends {r : R Fl} {M : Ends} (h : Fin K G sa F r N) (h1 : ∀ ρ' st', r = .ok (.nx ρ') st' → ∀ σ' F' H', Rep K G ρ' sa σ' F' H' st' → Sub F F' → M.nx σ' H') (h2 : ∀ ρ' st', r = .ok (.brk ρ') st' → ∀ σ' F' H', Rep K G ρ' sa σ' F' H' st' → Sub F F' → M.bk σ' H')
    (h3 : ∀ ρ' st', r = .ok (.ct ρ') st' → ∀ σ' F' H', Rep K G ρ' sa σ' F' H' st' → Sub F F' → M.ct σ' H') (h4 : M.rt = N.rt) : Fin K G sa F r M := by
  match r, h with
  | .ok (.nx ρ') st', h => exact h1 _ _ rfl
  | .ok (.ret d) st', h =>
    intro ρ' σ' F' H' v R s' q
    rw [h4]; exact h ρ' σ' F' H' v R s' q
  | .ok (.brk ρ') st', h => exact h2 _ _ rfl
  | .ok (.ct ρ') st', h => exact h3 _ _ rfl
  | .exc e st', h => exact h
  | .bad, h => exact h
def TSt (K : PySem.W.Frag) (G : Gh) (cl : Calls) (gl : List D) (s : S) : TS := fun N σ H => ∃ ρ sa F st, Rep K G ρ sa σ F H st ∧ Fin K G sa F (exec cl gl s ρ st) N
def TSs (K : PySem.W.Frag) (G : Gh) (cl : Calls) (gl : List D) (s : Ss) : TS := fun N σ H => ∃ ρ sa F st, Rep K G ρ sa σ F H st ∧ Fin K G sa F (execs cl gl s ρ st) N
theorem S_nil : TSs K G cl gl .nil N σ H → tNext N σ H := by
  rintro ⟨ρ, sa, F, st, R, p⟩
  simp only [execs] at p
  exact p _ _ _ R Sub.refl
theorem S_cons {s : S} {ss : Ss} : TSs K G cl gl (.cons s ss) N σ H → tSeq (TSt K G cl gl s) (TSs K G cl gl ss) N σ H := by
  rintro ⟨ρ, sa, F, st, R, p⟩
  simp only [execs] at p
  refine ⟨ρ, sa, F, st, R, ?_⟩
  cases q : exec cl gl s ρ st with
  | bad => rw [q] at p; exact p
  | exc e st' => rw [q] at p; exact p
  | ok f st' =>
    rw [q] at p
    simp only [Eng.R.bind_ok] at p
    cases f with
    | nx ρ' => exact fun σ' F' H' R' s' => ⟨ρ', sa, F', st', R', Fin.rebase p s'⟩
    | ret d => exact p
    | brk ρ' => exact p
    | ct ρ' => exact p
theorem Rep.lenOk (R : Rep K G ρ sa σ F H st) : ρ.length = σ.length := R.len
theorem setV_ok {i : Nat} {s : Slot} (h : Fin K G sa F (setV ρ i s st) N) : i < ρ.length ∧ Fin K G sa F (.ok (.nx (ρ.set i s)) st) N := by
  unfold setV at h
  split at h
  · rename_i hi; exact ⟨hi, h⟩
  · exact h.elim
theorem S_set {i : Nat} {e : E} : TSt K G cl gl (.set i e) N σ H → tAsg (T K G cl gl false e) (gName i) N σ H := by
  rintro ⟨ρ, sa, F, st, R, p⟩
  simp only [exec] at p
  refine ⟨ρ, sa, F, st, R, (Fin.bind p).imp fun d st1 F1 H1 s1 p1 x hx => ?_⟩
  exact (setV_ok p1).2 _ _ _ (s1.rep.set i (.inr ⟨d, x, rfl, rfl, hx.rp⟩)) Sub.refl
/-- a new list -/
def TN (K : PySem.W.Frag) (G : Gh) (cl : Calls) (gl : List D) (e : E) : TE := fun σ H Q => ∃ ρ sa F st, Rep K G ρ sa σ F H st ∧ P K G ρ sa σ F H (ev cl gl ρ false e st) fun d _ F' H' => ∃ ds, d = .list ds ∧ ∀ a xs, H' a = some (.lst xs) → F' a = none → Apart G ρ sa σ a → RpA K sa F' xs ds → Q (.ref a) H'
theorem Rep.setOwn {i : Nat} {a : Addr} {xs : List V} {ds : List D} (R : Rep K G ρ sa σ F H st) (ap : Apart G ρ sa σ a) (nF : F a = none) (h : H a = some (.lst xs)) (r : RpA K sa F xs ds) (hi : i < ρ.length) : Rep K G (ρ.set i (.lst ds)) sa (σ.set i (some (.ref a))) F H st := by
  have hi' : i < σ.length := by rw [← R.len]; exact hi
  have own : ∀ j b, OwnAt (ρ.set i (.lst ds)) (σ.set i (some (.ref a))) j b → (j = i ∧ b = a) ∨ (j ≠ i ∧ OwnAt ρ σ j b) := fun j b z => by
    by_cases e : j = i
    · subst e
      obtain ⟨_, hv⟩ := z
      rw [List.getElem?_set_self hi'] at hv
      cases hv
      exact .inl ⟨rfl, rfl⟩
    · obtain ⟨hs, hv⟩ := z
      rw [List.getElem?_set_ne (Ne.symm e)] at hv
      simp only [List.getElem?_set_ne (Ne.symm e)] at hs
      exact .inr ⟨e, hs, hv⟩
  refine ⟨R.sub, fun j s e => ?_, by rw [List.length_set, List.length_set, R.len], fun j k b h1 h2 => ?_, fun j b z => ?_, R.sta, R.base, R.new, R.sub0, R.sa0, R.saf⟩
  · rcases getElem?_set_cases e with ⟨e1, hl, q⟩ | ⟨ne, q⟩
    · subst e1 q
      exact ⟨a, xs, List.getElem?_set_self hi', h, r⟩
    · rw [List.getElem?_set_ne (Ne.symm ne)]
      exact R.slots j s q
  · rcases own j b h1 with ⟨e1, e2⟩ | ⟨e1, z1⟩
    · rcases own k b h2 with ⟨f1, f2⟩ | ⟨f1, z2⟩
      · rw [e1, f1]
      · rw [e2] at z2; exact (ap.ow k z2).elim
    · rcases own k b h2 with ⟨f1, f2⟩ | ⟨f1, z2⟩
      · rw [f2] at z1; exact (ap.ow j z1).elim
      · exact R.dis j k b z1 z2
  · rcases own j b z with ⟨e1, e2⟩ | ⟨e1, z1⟩
    · rw [e2]; exact ⟨nF, ap.h0, ap.ex⟩
    · exact R.own j b z1
theorem Rep.setOwnD {i : Nat} {a : Addr} {xs : List (Key × V)} {ds : List (Key × D)} (R : Rep K G ρ sa σ F H st) (ap : Apart G ρ sa σ a) (nF : F a = none) (h : H a = some (.dK xs)) (r : RpK K sa F xs ds) (hi : i < ρ.length) : Rep K G (ρ.set i (.dic ds)) sa (σ.set i (some (.ref a))) F H st := by
  have hi' : i < σ.length := by rw [← R.len]; exact hi
  have own : ∀ j b, OwnAt (ρ.set i (.dic ds)) (σ.set i (some (.ref a))) j b → (j = i ∧ b = a) ∨ (j ≠ i ∧ OwnAt ρ σ j b) := fun j b z => by
    by_cases e : j = i
    · subst e
      obtain ⟨_, hv⟩ := z
      rw [List.getElem?_set_self hi'] at hv
      cases hv
      exact .inl ⟨rfl, rfl⟩
    · obtain ⟨hs, hv⟩ := z
      rw [List.getElem?_set_ne (Ne.symm e)] at hv
      simp only [List.getElem?_set_ne (Ne.symm e)] at hs
      exact .inr ⟨e, hs, hv⟩
  refine ⟨R.sub, fun j s e => ?_, by rw [List.length_set, List.length_set, R.len], fun j k b h1 h2 => ?_, fun j b z => ?_, R.sta, R.base, R.new, R.sub0, R.sa0, R.saf⟩
  · rcases getElem?_set_cases e with ⟨e1, hl, q⟩ | ⟨ne, q⟩
    · subst e1 q
      exact ⟨a, xs, List.getElem?_set_self hi', h, r⟩
    · rw [List.getElem?_set_ne (Ne.symm ne)]
      exact R.slots j s q
  · rcases own j b h1 with ⟨e1, e2⟩ | ⟨e1, z1⟩
    · rcases own k b h2 with ⟨f1, f2⟩ | ⟨f1, z2⟩
      · rw [e1, f1]
      · rw [e2] at z2; exact (ap.ow k z2).elim
    · rcases own k b h2 with ⟨f1, f2⟩ | ⟨f1, z2⟩
      · rw [f2] at z1; exact (ap.ow j z1).elim
      · exact R.dis j k b z1 z2
  · rcases own j b z with ⟨e1, e2⟩ | ⟨e1, z1⟩
    · rw [e2]; exact ⟨nF, ap.h0, ap.ex⟩
    · exact R.own j b z1
/-- what is filled is written -/
theorem Rep.write {i : Nat} {a : Addr} {o : HO} (R : Rep K G ρ sa σ F H st) (ha : OwnAt ρ σ i a) {s : Slot} (hs : (∃ ds xs, s = .lst ds ∧ o = .lst xs ∧ RpA K sa F xs ds) ∨ ∃ ds xs, s = .dic ds ∧ o = .dK xs ∧ RpK K sa F xs ds) : Rep K G (ρ.set i s) sa σ F (upd H a o) st := by
  obtain ⟨nF, n0, nex⟩ := R.own i a ha
  have hi : i < ρ.length := by
    rcases ha.1 with ⟨ds, e⟩ | ⟨ds, e⟩ <;> exact (List.getElem?_eq_some_iff.mp e).1
  have own : ∀ j b, OwnAt (ρ.set i s) σ j b → OwnAt ρ σ j b := fun j b z => by
    by_cases e : j = i
    · subst e
      obtain ⟨_, hv⟩ := z
      exact ⟨ha.1, hv⟩
    · obtain ⟨h1, hv⟩ := z
      simp only [List.getElem?_set_ne (Ne.symm e)] at h1
      exact ⟨h1, hv⟩
  refine ⟨fun b u e => ?_, fun j t e => ?_, by rw [List.length_set, R.len], fun j k b h1 h2 => R.dis j k b (own _ _ h1) (own _ _ h2), fun j b z => R.own j b (own _ _ z), R.sta.keep (fun _ _ => rfl) (fun b e => upd_ne fun z => nex (z ▸ e)), fun b u hb e => ?_, R.new, R.sub0, R.sa0, R.saf⟩
  · rw [upd_ne (ne_of_none e nF)]; exact R.sub b u e
  · rcases getElem?_set_cases e with ⟨e1, hl, q⟩ | ⟨ne, q⟩
    · subst e1 q
      rcases hs with ⟨ds, xs, rfl, rfl, r⟩ | ⟨ds, xs, rfl, rfl, r⟩
      · exact ⟨a, xs, ha.2, upd_same, r⟩
      · exact ⟨a, xs, ha.2, upd_same, r⟩
    · have w := R.slots j t q
      cases t with
      | emp => trivial
      | val d => exact w
      | lst ds =>
        obtain ⟨b, xs, h1, h2, h3⟩ := w
        have nb : b ≠ a := fun z => by subst z; exact ne (R.dis j i b ⟨.inl ⟨ds, q⟩, h1⟩ ha)
        exact ⟨b, xs, h1, by rw [upd_ne nb]; exact h2, h3⟩
      | dic ds =>
        obtain ⟨b, xs, h1, h2, h3⟩ := w
        have nb : b ≠ a := fun z => by subst z; exact ne (R.dis j i b ⟨.inr ⟨ds, q⟩, h1⟩ ha)
        exact ⟨b, xs, h1, by rw [upd_ne nb]; exact h2, h3⟩
  · have nb : b ≠ a := fun z => by subst z; rw [n0] at e; cases e
    rw [upd_ne nb]; exact R.base b u hb e
/-- what was filled stands still from here on -/
theorem Rep.still {i : Nat} {a : Addr} {o : HO} {d : D} (R : Rep K G ρ sa σ F H st) (ha : OwnAt ρ σ i a) (h : H a = some o) (r : Rp K sa (upd F a o) (.ref a) d) : Rep K G (ρ.set i (.val d)) sa σ (upd F a o) H st := by
  obtain ⟨nF, n0, nex⟩ := R.own i a ha
  have sF : Sub F (upd F a o) := Sub.upd nF
  have own : ∀ j b, OwnAt (ρ.set i (.val d)) σ j b → j ≠ i ∧ OwnAt ρ σ j b := fun j b z => by
    by_cases e : j = i
    · subst e
      obtain ⟨h1, hv⟩ := z
      have hi : j < ρ.length := by rcases ha.1 with ⟨ds, e⟩ | ⟨ds, e⟩ <;> exact (List.getElem?_eq_some_iff.mp e).1
      rw [List.getElem?_set_self hi] at h1
      rcases h1 with ⟨_, h1⟩ | ⟨_, h1⟩ <;> cases h1
    · obtain ⟨h1, hv⟩ := z
      simp only [List.getElem?_set_ne (Ne.symm e)] at h1
      exact ⟨e, h1, hv⟩
  refine ⟨fun b u e => ?_, fun j t e => ?_, by rw [List.length_set, R.len], fun j k b h1 h2 => R.dis j k b (own _ _ h1).2 (own _ _ h2).2, fun j b z => ?_, R.sta.keep (fun b e => upd_ne fun z => nex (z ▸ e)) (fun _ _ => rfl), R.base, fun b z => ?_, R.sub0.trans sF, R.sa0, R.saf⟩
  · by_cases hb : b = a
    · subst hb; rw [upd_same] at e; cases e; exact h
    · rw [upd_ne hb] at e; exact R.sub b u e
  · rcases getElem?_set_cases e with ⟨e1, hl, q⟩ | ⟨ne, q⟩
    · subst e1 q
      exact ⟨_, ha.2, r⟩
    · have w := R.slots j t q
      cases t with
      | emp => trivial
      | val d => obtain ⟨x, h1, h2⟩ := w; exact ⟨x, h1, h2.mono sF⟩
      | lst ds => obtain ⟨b, xs, h1, h2, h3⟩ := w; exact ⟨b, xs, h1, h2, h3.mono sF⟩
      | dic ds => obtain ⟨b, xs, h1, h2, h3⟩ := w; exact ⟨b, xs, h1, h2, h3.mono sF⟩
  · obtain ⟨ne, z⟩ := own j b z
    obtain ⟨h1, h2, h3⟩ := R.own j b z
    have nb : b ≠ a := fun q => by subst q; exact ne (R.dis j i b z ha)
    exact ⟨by rw [upd_ne nb]; exact h1, h2, h3⟩
  · by_cases hb : b = a
    · subst hb; exact .inr (.inl n0)
    · rw [upd_ne hb] at z ⊢; exact R.new b z
theorem S_setO {i : Nat} {e : E} : TSt K G cl gl (.setO i e) N σ H → tAsg (TN K G cl gl e) (gName i) N σ H := by
  rintro ⟨ρ, sa, F, st, R, p⟩
  simp only [exec] at p
  refine ⟨ρ, sa, F, st, R, (Fin.bind p).imp fun d st1 F1 H1 s1 p1 => ?_⟩
  split at p1
  · refine ⟨_, rfl, fun a xs ha nF ap ra => ?_⟩
    obtain ⟨hi, q⟩ := setV_ok p1
    exact q _ _ _ (s1.rep.setOwn ap nF ha ra hi) Sub.refl
  · exact p1.elim
theorem S_newD {i : Nat} : TSt K G cl gl (.newD i) N σ H → tAsg tDNewK (gName i) N σ H := by
  rintro ⟨ρ, sa, F, st, R, p⟩
  simp only [exec] at p
  obtain ⟨hi, q⟩ := setV_ok p
  intro L hL
  obtain ⟨ap, nF⟩ := R.apart hL
  exact q _ _ _ ((R.put (o := .dK []) ap nF).setOwnD ap nF upd_same .nil hi) Sub.refl
theorem S_asg {tg : Tg} {e : E} {vs : List Nat} (hv : tgIn vs tg = true) : TSt K G cl gl (.asg tg e) N σ H → tAsg (T K G cl gl false e) (gOf K tg) N σ H := by
  rintro ⟨ρ, sa, F, st, R, p⟩
  simp only [exec] at p
  refine ⟨ρ, sa, F, st, R, (Fin.bind p).imp fun d st1 F1 H1 s1 p1 x hx => ?_⟩
  split at p1
  · rename_i ρ' hb
    exact g_ok tg hb s1.rep (.inl hx.rp) hv fun σ' R' _ => p1 _ _ _ R' Sub.refl
  · exact p1.elim
theorem S_par {i j : Nat} {a b : E} : TSt K G cl gl (.par i j a b) N σ H → tPar i j (tCons (T K G cl gl false a) (tCons (T K G cl gl false b) tNil)) N σ H := by
  rintro ⟨ρ, sa, F, st, R, p⟩
  simp only [exec] at p
  refine ⟨ρ, sa, F, st, R, (Fin.bind p).imp fun d st1 F1 H1 s1 p1 x hx => ?_⟩
  refine ⟨ρ, sa, F1, st1, s1.rep, (Fin.bind p1).imp fun e st2 F2 H2 s2 p2 y hy => ?_⟩
  split at p2
  · refine ⟨x, y, rfl, p2 _ _ _ ((s2.rep.set i (.inr ⟨d, x, rfl, rfl, (hx.mono s2).rp⟩)).set j (.inr ⟨e, y, rfl, rfl, hy.rp⟩)) Sub.refl⟩
  · exact p2.elim
theorem S_aug {i : Nat} {sub : Bool} {e : E} : TSt K G cl gl (.aug i sub e) N σ H → tAug i (T K G cl gl false e) (if sub then ipI fun i j => i - j else ipI fun i j => i + j) N σ H := by
  rintro ⟨ρ, sa, F, st, R, p⟩
  simp only [exec] at p
  split at p
  · rename_i n hs
    obtain ⟨x, h1, h2⟩ := R.slots i _ hs
    cases h2
    refine ⟨.int n, h1, ρ, sa, F, st, R, (Fin.bind p).imp fun d st1 F1 H1 s1 p1 y hy => ?_⟩
    split at p1
    · rename_i m
      rw [hy.int]
      cases sub with
      | true => exact ⟨n, m, rfl, rfl, p1 _ _ _ (s1.rep.set i (.inr ⟨_, _, rfl, rfl, .int _⟩)) Sub.refl⟩
      | false => exact ⟨n, m, rfl, rfl, p1 _ _ _ (s1.rep.set i (.inr ⟨_, _, rfl, rfl, .int _⟩)) Sub.refl⟩
    · exact p1.elim
  · exact p.elim
theorem S_put {i : Nat} {k e : E} : TSt K G cl gl (.put i k e) N σ H → tAsg (T K G cl gl false e) (gSub (tVar i) (T K G cl gl false k) rSetL) N σ H := by
  rintro ⟨ρ, sa, F, st, R, p⟩
  simp only [exec] at p
  split at p
  · rename_i ds hds
    obtain ⟨a, xs, h1, h2, h3⟩ := R.slots i _ hds
    have ha : OwnAt ρ σ i a := ⟨.inl ⟨ds, hds⟩, h1⟩
    refine ⟨ρ, sa, F, st, R, (Fin.bind p).imp fun d st1 F1 H1 s1 p1 x hx => ?_⟩
    refine ⟨.ref a, h1, ρ, sa, F1, st1, s1.rep, (Fin.bind p1).imp fun n st2 F2 H2 s2 p2 y hy => ?_⟩
    split at p2
    · split at p2
      · rename_i j hj
        have nex := (R.own i a ha).2.2
        have hH := s2.keep _ _ nex (s1.keep _ _ nex h2)
        have hr := (h3.mono s1.sub).mono s2.sub
        refine ⟨a, xs, _, j, rfl, hy.int, hH, by rw [h3.length]; exact hj, ?_⟩
        exact p2 _ _ _ (s2.rep.write ha (.inl ⟨_, _, rfl, rfl, hr.set (hx.mono s2).rp j⟩)) Sub.refl
      · exact p2.elim
    · exact p2.elim
  · exact p.elim
def gPs (K : PySem.W.Frag) (G : Gh) (cl : Calls) (gl : List D) : List PT → TGs
  | [] => gNil
  | .nm i :: ts => gCons (gName i) (gPs K G cl gl ts)
  | .sub i k :: ts => gCons (gSub (tVar i) (T K G cl gl false k) rSetL) (gPs K G cl gl ts)
theorem st_ok : ∀ (ts : List PT) {ds : List D} {vs : List V} {ρ : Env} {σ : L2.St} {F H : Hp} {st : Sta}, Rep K G ρ sa σ F H st → RpA K sa F vs ds → Fin K G sa F (stRun cl gl ts ds ρ st) N → gPs K G cl gl ts vs σ H N.nx
  | [], ds, vs, ρ, σ, F, H, st, R, r, p => by
    cases r with
    | nil =>
      simp only [stRun] at p
      exact ⟨rfl, p _ _ _ R Sub.refl⟩
    | cons _ _ => simp only [stRun] at p; exact p.elim
  | .nm i :: ts, ds, vs, ρ, σ, F, H, st, R, r, p => by
    cases r with
    | nil => simp only [stRun] at p; exact p.elim
    | cons r1 r2 =>
      simp only [stRun] at p
      split at p
      · exact ⟨_, _, rfl, st_ok ts (R.set i (.inr ⟨_, _, rfl, rfl, r1⟩)) r2 p⟩
      · exact p.elim
  | .sub i k :: ts, ds, vs, ρ, σ, F, H, st, R, r, p => by
    cases r with
    | nil => simp only [stRun] at p; exact p.elim
    | cons r1 r2 =>
      simp only [stRun] at p
      split at p
      · rename_i xs hxs
        obtain ⟨a, vs', h1, h2, h3⟩ := R.slots i _ hxs
        have ha : OwnAt ρ σ i a := ⟨.inl ⟨xs, hxs⟩, h1⟩
        refine ⟨_, _, rfl, .ref a, h1, ρ, sa, F, st, R, (Fin.bind p).imp fun n st2 F2 H2 s2 p2 y hy => ?_⟩
        split at p2
        · split at p2
          · rename_i j hj
            have nex := (R.own i a ha).2.2
            have hH := s2.keep _ _ nex h2
            have hr := h3.mono s2.sub
            refine ⟨a, vs', _, j, rfl, hy.int, hH, by rw [h3.length]; exact hj, ?_⟩
            exact st_ok ts (s2.rep.write ha (.inl ⟨_, _, rfl, rfl, hr.set (r1.mono s2.sub) j⟩)) (r2.mono s2.sub) p2
          · exact p2.elim
        · exact p2.elim
      · exact p.elim
theorem S_stores {ts : List PT} {es : Es} : TSt K G cl gl (.stores ts es) N σ H → tAsg (T K G cl gl false (.tup es)) (fun v σ H Q => gTup K ts.length (gPs K G cl gl ts) v σ H Q) N σ H := by
  rintro ⟨ρ, sa, F, st, R, p⟩
  simp only [exec] at p
  refine ⟨ρ, sa, F, st, R, (Fin.bind p).imp fun d st1 F1 H1 s1 p1 x hx => ?_⟩
  split at p1
  · split at p1
    · rename_i hl
      obtain ⟨a, xs, rfl, h2, h3⟩ := hx.tuple s1.rep.sub
      exact ⟨a, xs, rfl, h2, by rw [h3.length, hl], st_ok ts s1.rep h3 p1⟩
    · exact p1.elim
  · exact p1.elim
theorem S_app {i : Nat} {e : E} : TSt K G cl gl (.app i e) N σ H → tDrop (tBM K "list" rAppend (tVar i) (tCons (T K G cl gl false e) tNil)) N σ H := by
  rintro ⟨ρ, sa, F, st, R, p⟩
  simp only [exec] at p
  split at p
  · rename_i ds hds
    obtain ⟨a, xs, h1, h2, h3⟩ := R.slots i _ hds
    have ha : OwnAt ρ σ i a := ⟨.inl ⟨ds, hds⟩, h1⟩
    refine ⟨.ref a, h1, .inl ⟨rfl, xs, .inl (.inl h2)⟩, ρ, sa, F, st, R, (Fin.bind p).imp fun d st1 F1 H1 s1 p1 x hx => ?_⟩
    split at p1
    · rename_i hz
      have nex := (R.own i a ha).2.2
      refine ⟨a, xs, x, rfl, rfl, s1.keep _ _ nex h2, by rw [h3.length]; exact hz, ?_⟩
      exact p1 _ _ _ (s1.rep.write ha (.inl ⟨_, _, rfl, rfl, (h3.mono s1.sub).append (.cons hx.rp .nil)⟩)) Sub.refl
    · exact p1.elim
  · exact p.elim
theorem RpK.any {F : Hp} {k : Key} : ∀ {kvs : List (Key × V)} {kds : List (Key × D)}, RpK K sa F kvs kds → (kvs.any fun kv => decide (kv.1 = k)) = kds.any fun kv => decide (kv.1 = k)
  | _, _, .nil => rfl
  | _, _, .cons h r => by rw [List.any_cons, List.any_cons, RpK.any r]
theorem RpK.repl {F : Hp} {k : Key} {v : V} {d : D} (q : Rp K sa F v d) : ∀ {kvs : List (Key × V)} {kds : List (Key × D)}, RpK K sa F kvs kds → RpK K sa F (kvs.map fun kv => if kv.1 = k then (kv.1, v) else kv) (kds.map fun kv => if kv.1 = k then (kv.1, d) else kv)
  | _, _, .nil => .nil
  | _, _, .cons (k := k') h r => by
    rw [List.map_cons, List.map_cons]
    by_cases e : k' = k
    · rw [if_pos e, if_pos e]; exact .cons q (RpK.repl q r)
    · rw [if_neg e, if_neg e]; exact .cons h (RpK.repl q r)
theorem RpK.snoc {F : Hp} {k : Key} {v : V} {d : D} (q : Rp K sa F v d) : ∀ {kvs : List (Key × V)} {kds : List (Key × D)}, RpK K sa F kvs kds → RpK K sa F (kvs ++ [(k, v)]) (kds ++ [(k, d)])
  | _, _, .nil => .cons q .nil
  | _, _, .cons h r => .cons h (RpK.snoc q r)
theorem RpK.put {F : Hp} {k : Key} {v : V} {d : D} (q : Rp K sa F v d) {kvs : List (Key × V)} {kds : List (Key × D)} (r : RpK K sa F kvs kds) : RpK K sa F (putK kvs k v) (putD kds k d) := by
  unfold putK putD
  rw [r.any]
  split
  · exact RpK.repl q r
  · exact RpK.snoc q r
theorem S_dput {i : Nat} {k e : E} : TSt K G cl gl (.dput i k e) N σ H → sDPut (tVar i) (T K G cl gl false k) (T K G cl gl false e) N σ H := by
  rintro ⟨ρ, sa, F, st, R, p⟩
  simp only [exec] at p
  split at p
  · rename_i ds hds
    obtain ⟨a, xs, h1, h2, h3⟩ := R.slots i _ hds
    have ha : OwnAt ρ σ i a := ⟨.inr ⟨ds, hds⟩, h1⟩
    refine ⟨ρ, sa, F, st, R, (Fin.bind p).imp fun d st1 F1 H1 s1 p1 x hx => ?_⟩
    refine ⟨.ref a, h1, ρ, sa, F1, st1, s1.rep, (Fin.bind p1).imp fun n st2 F2 H2 s2 p2 y hy => ?_⟩
    split at p2
    · rename_i kk hk
      split at p2
      · rename_i hz
        have nex := (R.own i a ha).2.2
        have hH := s2.keep _ _ nex (s1.keep _ _ nex h2)
        have hr := (h3.mono s1.sub).mono s2.sub
        refine ⟨a, upd H2 a (.dK (putK xs kk x)), rfl, ?_, ?_⟩
        · rw [keyD_rp hk hy]; exact DPut.k hH (by rw [h3.length]; exact hz)
        · exact p2 _ _ _ (s2.rep.write ha (.inr ⟨_, _, rfl, rfl, hr.put (hx.mono s2).rp⟩)) Sub.refl
      · exact p2.elim
    · exact p2.elim
  · exact p.elim
theorem S_ex {e : E} : TSt K G cl gl (.ex e) N σ H → tDrop (T K G cl gl false e) N σ H := by
  rintro ⟨ρ, sa, F, st, R, p⟩
  simp only [exec] at p
  exact ⟨ρ, sa, F, st, R, (Fin.bind p).imp fun d st1 F1 H1 s1 p1 x hx => p1 _ _ _ s1.rep Sub.refl⟩
theorem S_ret {e : E} : TSt K G cl gl (.ret e) N σ H → tRet (T K G cl gl false e) N σ H := by
  rintro ⟨ρ, sa, F, st, R, p⟩
  simp only [exec] at p
  exact ⟨ρ, sa, F, st, R, (Fin.bind p).imp fun d st1 F1 H1 s1 p1 x hx => p1 _ _ _ _ _ s1.rep Sub.refl hx.rp⟩
theorem S_retN : TSt K G cl gl .retN N σ H → tRetN N σ H := by
  rintro ⟨ρ, sa, F, st, R, p⟩
  simp only [exec] at p
  exact p _ _ _ _ _ R Sub.refl .non
theorem S_pass : TSt K G cl gl .pass N σ H → tNext N σ H := by
  rintro ⟨ρ, sa, F, st, R, p⟩
  simp only [exec] at p
  exact p _ _ _ R Sub.refl
theorem S_brk : TSt K G cl gl .brk N σ H → tBreak N σ H := by
  rintro ⟨ρ, sa, F, st, R, p⟩
  simp only [exec] at p
  exact p _ _ _ R Sub.refl
theorem S_cont : TSt K G cl gl .cont N σ H → tCont N σ H := by
  rintro ⟨ρ, sa, F, st, R, p⟩
  simp only [exec] at p
  exact p _ _ _ R Sub.refl
theorem tst_P {c : E} {Ok : Bool → Sta → Hp → Hp → Prop} (R : Rep K G ρ sa σ F H st) (p : P K G ρ sa σ F H (tst cl gl c ρ st) Ok) : P K G ρ sa σ F H (ev cl gl ρ false c st) fun d st' F' H' => ∃ b, d = .bool b ∧ Ok b st' F' H' := by
  unfold tst at p
  refine (P.bind p).imp fun d st1 F1 H1 s1 p1 => ?_
  split at p1
  · exact ⟨_, rfl, p1.here s1.rep⟩
  · exact p1.elim
theorem S_ite {c : E} {a b : Ss} : TSt K G cl gl (.ite c a b) N σ H → tIfS (TTe K G cl gl c) (TSs K G cl gl a) (TSs K G cl gl b) N σ H := by
  rintro ⟨ρ, sa, F, st, R, p⟩
  simp only [exec] at p
  refine ⟨ρ, sa, F, st, R, (tst_P R (Fin.bind p)).imp fun d st1 F1 H1 s1 ⟨k, hk, p1⟩ => ⟨k, hk, ?_⟩⟩
  cases k with
  | true => exact iteT ⟨ρ, sa, F1, st1, s1.rep, by simpa using p1⟩
  | false => exact iteF ⟨ρ, sa, F1, st1, s1.rep, by simpa using p1⟩
theorem S_frz {i : Nat} {ss : Ss} : TSs K G cl gl (.cons (.frz i) ss) N σ H → TSs K G cl gl ss N σ H := by
  rintro ⟨ρ, sa, F, st, R, p⟩
  simp only [execs, exec] at p
  cases hs : ρ[i]? with
  | none => simp only [hs, Eng.R.bind_ok] at p; exact ⟨ρ, sa, F, st, R, p⟩
  | some s =>
    cases s with
    | emp => simp only [hs, Eng.R.bind_ok] at p; exact ⟨ρ, sa, F, st, R, p⟩
    | val d => simp only [hs, Eng.R.bind_ok] at p; exact ⟨ρ, sa, F, st, R, p⟩
    | lst ds =>
      simp only [hs, Eng.R.bind_ok] at p
      obtain ⟨a, xs, h1, h2, h3⟩ := R.slots i _ hs
      have ha : OwnAt ρ σ i a := ⟨.inl ⟨ds, hs⟩, h1⟩
      have nF := (R.own i a ha).1
      exact ⟨_, sa, _, st, R.still ha h2 (.lst upd_same (h3.mono (Sub.upd nF))), Fin.rebase p (Sub.upd nF)⟩
    | dic ds =>
      simp only [hs, Eng.R.bind_ok] at p
      obtain ⟨a, xs, h1, h2, h3⟩ := R.slots i _ hs
      have ha : OwnAt ρ σ i a := ⟨.inr ⟨ds, hs⟩, h1⟩
      have nF := (R.own i a ha).1
      exact ⟨_, sa, _, st, R.still ha h2 (.dic upd_same (h3.mono (Sub.upd nF))), Fin.rebase p (Sub.upd nF)⟩
theorem S_whl {c : E} {b : Ss} : TSt K G cl gl (.whl c b) N σ H → tWhile (TTe K G cl gl c) (TSs K G cl gl b) N σ H := by
  rintro ⟨ρ, sa, F, st, R, p⟩
  simp only [exec] at p
  refine ⟨fun m σ H => ∃ ρ F st, Rep K G ρ sa σ F H st ∧ Fin K G sa F (whlRun (tst cl gl c) (execs cl gl b) m ρ st) N, ⟨wf, ρ, F, st, R, p⟩, ?_⟩
  rintro m σ H ⟨ρ, F, st, R, p⟩
  cases m with
  | zero => exact p.elim
  | succ m =>
    simp only [whlRun] at p
    refine ⟨ρ, sa, F, st, R, (tst_P R (Fin.bind p)).imp fun d st1 F1 H1 s1 ⟨k, hk, p1⟩ => ⟨k, hk, ?_⟩⟩
    cases k with
    | false => exact iteF (by simp only [Bool.false_eq_true, if_false] at p1; exact p1 _ _ _ s1.rep Sub.refl)
    | true =>
      simp only [if_true] at p1
      refine iteT ⟨fun σ H => ∃ ρ F st, Rep K G ρ sa σ F H st ∧ Fin K G sa F (whlRun (tst cl gl c) (execs cl gl b) m ρ st) N, fun σ' H' w => ⟨m, Nat.lt_succ_self m, w⟩, ρ, sa, F1, st1, s1.rep, ?_⟩
      cases q : execs cl gl b ρ st1 with
      | bad => rw [q] at p1; exact p1.elim
      | exc e st' => rw [q] at p1; exact p1
      | ok f st' =>
        rw [q] at p1
        simp only [Eng.R.bind_ok] at p1
        cases f with
        | nx ρ' => exact fun σ' F' H' R' s' => ⟨ρ', F', st', R', Fin.rebase p1 s'⟩
        | ct ρ' => exact fun σ' F' H' R' s' => ⟨ρ', F', st', R', Fin.rebase p1 s'⟩
        | brk ρ' => exact p1
        | ret d => exact p1
theorem S_for {tg : Tg} {it : It} {b : Ss} {vs : List Nat} (hv : tgOk vs it tg = true) : TSt K G cl gl (.for tg it b) N σ H → tFor (TIt K G cl gl false it) (gOf K tg) (TSs K G cl gl b) N σ H := by
  rintro ⟨ρ, sa, F, st, R, p⟩
  simp only [exec] at p
  refine ⟨ρ, sa, F, st, R, (Fin.bind p).imp fun ds st1 F1 H1 s1 p1 J hJ => ?_⟩
  let W : Nat → L2.St → Hp → Prop := fun i σ H => i ≤ ds.length ∧ ∃ ρ F st, Rep K G ρ sa σ F H st ∧ Sub F1 F ∧ Fin K G sa F (forRun tg (execs cl gl b) (ds.drop i) ρ st) N
  refine ⟨fun i m σ H => m = ds.length - i ∧ W i σ H, ⟨ds.length, rfl, Nat.zero_le _, ρ, F1, st1, s1.rep, Sub.refl, p1⟩, ?_⟩
  rintro i m σ H ⟨rfl, hi, ρ, F, st, R, sF, p⟩
  have jj := hJ F H sF R.sub (fun z => by cases z) i
  by_cases hlt : i < ds.length
  · have hget : ds[i]? = some ds[i] := List.getElem?_eq_getElem hlt
    refine .inr ⟨(jj.1 _ hget).1, fun σ' H' => W (i + 1) σ' H', fun σ' H' w => ⟨ds.length - (i + 1), by omega, rfl, w⟩, fun x H' hy => ?_⟩
    rw [List.drop_eq_getElem_cons hlt] at p
    simp only [forRun] at p
    obtain ⟨F2, s2, hx⟩ : ∃ F2, Stp K G ρ sa σ F H F2 H' st ∧ (Rp K sa F2 x ds[i] ∨ (nameTg tg = false ∧ Wk K sa F2 x ds[i])) := by
      rcases (jj.1 _ hget).2 x H' hy with ⟨rfl, r⟩ | ⟨p, u, np, rfl, wk, r⟩
      · exact ⟨F, Stp.refl R, .inl r⟩
      · exact ⟨_, Stp.alloc R np, .inr ⟨tgOk_wk hv wk, r⟩⟩
    cases hb : bindTg tg ds[i] ρ with
    | none => simp only [hb] at p; exact p.elim
    | some ρ1 =>
      simp only [hb] at p
      refine g_ok tg hb s2.rep hx (tgOk_in hv) fun σ2 R2 _ => ⟨ρ1, sa, F2, st, R2, ?_⟩
      have p' := Fin.rebase p s2.sub
      cases q : execs cl gl b ρ1 st with
      | bad => rw [q] at p'; exact p'.elim
      | exc e st' => rw [q] at p'; exact p'
      | ok f st' =>
        rw [q] at p'
        simp only [Eng.R.bind_ok] at p'
        have sT := sF.trans s2.sub
        cases f with
        | nx ρ' => exact fun σ' F' H' R' s' => ⟨by omega, ρ', F', st', R', sT.trans s', Fin.rebase p' s'⟩
        | ct ρ' => exact fun σ' F' H' R' s' => ⟨by omega, ρ', F', st', R', sT.trans s', Fin.rebase p' s'⟩
        | brk ρ' => exact p'
        | ret d => exact p'
  · have e : i = ds.length := by omega
    subst e
    refine .inl ⟨jj.2 (Nat.le_refl _), ?_⟩
    rw [List.drop_length] at p
    simp only [forRun] at p
    exact p _ _ _ R Sub.refl
end
end Eng

end
section
set_option Elab.async false
set_option linter.all false
set_option maxRecDepth 100000
set_option maxHeartbeats 16000000
set_option autoImplicit false
/-! Eng, part K: statements do what they stand for; defs. -/
namespace Eng
open PySem PySem.Spec PyProof.Rows L2

section
variable {K : PySem.W.Frag} {G G' : Gh} {cl : Calls} {gl : List D} {ρ : Env} {sa : SA} {σ : L2.St} {F H F1 : Hp} {st : Sta} {Q : VK}
abbrev NewL (K : PySem.W.Frag) (G : Gh) (ρ : Env) (sa : SA) (σ : L2.St) (Q : VK) (d : D) (F' H' : Hp) : Prop := ∃ ds, d = .list ds ∧ ∀ a xs, H' a = some (.lst xs) → F' a = none → Apart G ρ sa σ a → RpA K sa F' xs ds → Q (.ref a) H'
theorem newL (R : Rep K G ρ sa σ F H st) {ds : List D} {xs : List V} (h : ∀ F' H', Stp K G ρ sa σ F H F' H' st → NewL K G ρ sa σ Q (.list ds) F' H') (r : RpA K sa F xs ds) {p : Addr} (n : H p = none) : Q (.ref p) (upd H p (.lst xs)) := by
  obtain ⟨ap, nF⟩ := R.apart n
  obtain ⟨ds', e, q⟩ := h F (upd H p (.lst xs)) ⟨R.put ap nF, Sub.refl, fun b u _ e => Sub.upd n b u e, fun _ z => .inl z⟩
  cases e
  exact q p xs upd_same nF ap r
theorem TN_lst {es : Es} : TN K G cl gl (.lst es) σ H Q → tLst (TAs K G cl gl es) σ H Q := by
  rintro ⟨ρ, sa, F, st, R, p⟩
  simp only [ev] at p
  refine ⟨ρ, sa, F, st, R, (P.bind p).imp fun ds st1 F1 H1 s1 p1 xs hx => ?_⟩
  split at p1
  · rename_i hz
    exact ⟨by rw [hx.length]; exact hz, fun q n => newL s1.rep p1 hx n⟩
  · exact p1.elim
theorem TN_mul {a b : E} : TN K G cl gl (.bin .mul a b) σ H Q → tOp (rBin K .mul) (T K G cl gl true a) (T K G cl gl true b) σ H Q := by
  rintro ⟨ρ, sa, F, st, R, p⟩
  simp only [ev] at p
  refine ⟨ρ, sa, F, st, R, (P.bind p).imp fun d st1 F1 H1 s1 p1 x hx => ?_⟩
  refine ⟨ρ, sa, F1, st1, s1.rep, (P.bind p1).imp fun e st2 F2 H2 s2 p2 y hy => ?_⟩
  obtain ⟨r, hr, q0, q⟩ := P.of p2 s2.rep
  obtain ⟨ds, hd, _⟩ := q0
  subst hd
  have hr' : mulD d e = some (.list ds) := hr
  unfold mulD at hr'
  split at hr'
  · split at hr' <;> cases hr'
  · split at hr'
    · rename_i hz
      cases hr'
      obtain ⟨a, xs, e1, e2, e3⟩ := (hx.mono s2).list s2.rep.sub
      exact .inr (.inl ⟨a, _, xs, e1, hy.int, e2, hz.1, hz.2.1, by rw [e3.length]; exact hz.2.2, fun p n => newL s2.rep q (e3.rep _) n⟩)
    · cases hr'
  · split at hr' <;> cases hr'
  · cases hr'
theorem TN_add {a b : E} : TN K G cl gl (.bin .add a b) σ H Q → tOp (rBin K .add) (T K G cl gl true a) (T K G cl gl true b) σ H Q := by
  rintro ⟨ρ, sa, F, st, R, p⟩
  simp only [ev] at p
  refine ⟨ρ, sa, F, st, R, (P.bind p).imp fun d st1 F1 H1 s1 p1 x hx => ?_⟩
  refine ⟨ρ, sa, F1, st1, s1.rep, (P.bind p1).imp fun e st2 F2 H2 s2 p2 y hy => ?_⟩
  obtain ⟨r, hr, q0, q⟩ := P.of p2 s2.rep
  obtain ⟨ds, hd, _⟩ := q0
  subst hd
  have hr' : addD d e = some (.list ds) := hr
  unfold addD at hr'
  split at hr'
  · cases hr'
  · split at hr'
    · rename_i hz
      cases hr'
      obtain ⟨a, xs, e1, e2, e3⟩ := (hx.mono s2).list s2.rep.sub
      obtain ⟨b, ys, f1, f2, f3⟩ := hy.list s2.rep.sub
      exact .inr (.inl ⟨a, b, xs, ys, e1, f1, e2, f2, by rw [e3.length, f3.length]; exact hz, fun p n => newL s2.rep q (e3.append f3) n⟩)
    · cases hr'
  · split at hr' <;> cases hr'
  · split at hr' <;> cases hr'
  · cases hr'
theorem TN_list {a : E} : TN K G cl gl (.bi .list a) σ H Q → tCB (rBi K .list) (tCons (T K G cl gl true a) tNil) σ H Q := by
  rintro ⟨ρ, sa, F, st, R, p⟩
  simp only [ev] at p
  refine ⟨ρ, sa, F, st, R, (P.bind p).imp fun d st1 F1 H1 s1 p1 x hx => ?_⟩
  obtain ⟨r, hr, q0, q⟩ := P.of p1 s1.rep
  cases d <;> simp only [biD, Option.some.injEq] at hr <;> try cases hr
  · obtain ⟨a, xs, e1, e2, e3⟩ := hx.list s1.rep.sub
    exact ⟨a, xs, by rw [e1], .inl (.inl (.inl e2)), fun p n => newL s1.rep q e3 n⟩
  · obtain ⟨a, xs, e1, e2, e3⟩ := hx.tuple s1.rep.sub
    exact ⟨a, xs, by rw [e1], .inr e2, fun p n => newL s1.rep q e3 n⟩
theorem TN_sorted {a : E} : TN K G cl gl (.bi .sorted a) σ H Q → tCB (rBi K .sorted) (tCons (T K G cl gl true a) tNil) σ H Q := by
  rintro ⟨ρ, sa, F, st, R, p⟩
  simp only [ev] at p
  refine ⟨ρ, sa, F, st, R, (P.bind p).imp fun d st1 F1 H1 s1 p1 x hx => ?_⟩
  obtain ⟨r, hr, q0, q⟩ := P.of p1 s1.rep
  cases d <;> simp only [biD, reduceCtorEq] at hr
  rename_i xs0
  cases g : intsD xs0 with
  | none => rw [g] at hr; cases hr
  | some ns =>
    rw [g] at hr; cases hr
    obtain ⟨a, xs, e1, e2, e3⟩ := hx.list s1.rep.sub
    rw [e3.ints g] at e2
    refine ⟨a, ns, by rw [e1], .inl (.inl e2), fun ns' p hp hs n => ?_⟩
    rw [isort_eq hp hs]
    exact newL s1.rep q (RpA.of_ints _) n
theorem TN_comp {own : List (Str × Nat)} {tg : Tg} {it : It} {c : OE} {e : E} {Q : VK} (ge : GEq G G') (hv : tgOk (own.map (·.2)) it tg = true) :
    TN K G cl gl (.comp own tg it c e) σ H Q → tLc (TIt K G cl gl true it) (gOf K tg) (TIf K G' cl gl c) (T K G' cl gl false e) (own.map (·.2)) σ H Q := by
  rintro ⟨ρ, sa, F, st, R, p⟩
  refine comp_core ge hv R p fun F1 H1 acc sti Fi Hi L accV hn s nF hL ap ra q => ?_
  obtain ⟨ds, e, w⟩ := q Fi Hi s
  cases e
  exact w L accV hL nF ap ra
end

/-! ### shapes -/
def notComp : Expr → Bool
  | .ListComp .. => false
  | .SetComp .. => false
  | .DictComp .. => false
  | _ => true
theorem swaps_not {e : Expr} {t : Option Expr} {l : Nat} {env : PySem.Env} (h : notComp e = true) : swapsWith e t l env = pure false := by
  cases e <;> first | rfl | cases h
theorem swaps_tup {e : Expr} {es : List Expr} {k l : Nat} {pos : Pos} {env : PySem.Env} : swapsWith e (some (.Tuple es k pos)) l env = pure false := by
  cases e <;> rfl
theorem swaps_sub {e o i : Expr} {l : Nat} {pos : Pos} {env : PySem.Env} : swapsWith e (some (.Subscript o i pos)) l env = pure false := by
  cases e <;> rfl
theorem sole_tup {e : Expr} {es : List Expr} {k l : Nat} {pos : Pos} {env : PySem.Env} : swapsWithSole [.Tuple es k pos] e l env = pure false := by
  cases e <;> rfl
theorem sole_sub {e o i : Expr} {l : Nat} {pos : Pos} {env : PySem.Env} : swapsWithSole [.Subscript o i pos] e l env = pure false := by
  cases e <;> rfl
theorem swaps_cell {elt : Expr} {gs : List Comprehension} {scope : Scope} {pos py : Pos} {y : Str} {l : Nat} {env : PySem.Env} (h : env.kindOf y = some .cell) : swapsWith (.ListComp elt gs scope pos) (some (.Name y py)) l env = pure false := by
  unfold swapsWith
  simp only [h]
  have e : ((some NameKind.cell : Option NameKind) == some .local) = false := rfl
  simp [e]
def notTup : Expr → Bool
  | .Tuple .. => false
  | _ => true
theorem stores_not {e : Expr} {es : List Expr} {k : Nat} {pos : Pos} {env : PySem.Env} (h : notTup e = true) : swappedStores [.Tuple es k pos] e env = pure none := by
  cases e <;> first | rfl | cases h
def nameOf : Expr → Option Str
  | .Name x _ => some x
  | _ => none

theorem assign_sub {o i : Expr} {pos : Pos} {env : PySem.Env} {v : Value} (h : notSlice i = true) : assign (.Subscript o i pos) env v = (do
    let ov ← holding [v] (eval o env)
    let iv ← holding [v, ov] (eval i env)
    standAt pos
    holding [v, ov, iv] (setItem ov iv v)
    release [v, ov, iv] []) := by
  cases i <;> first | rfl | cases h
theorem fm_lt {α β : Type} {f : α → Option β} : ∀ {l : List α} {x : α}, x ∈ l → f x = none → (l.filterMap f).length < l.length
  | y :: l, x, h, e => by
    rcases List.mem_cons.mp h with rfl | h
    · rw [List.filterMap_cons, e]
      exact Nat.lt_succ_of_le (List.length_filterMap_le f l)
    · have := fm_lt h e
      rw [List.filterMap_cons]
      cases f y with
      | none => exact Nat.lt_succ_of_lt this
      | some z => exact Nat.succ_lt_succ this
def subTg : Expr → Bool
  | .Subscript .. => true
  | _ => false
def parNo (ts : List Expr) : Bool := !(ts.length == 2 || ts.length == 3) || ts.any subTg
theorem stores_none {ts vs : List Expr} {k k2 : Nat} {p p2 : Pos} {env : PySem.Env} (h : parNo ts = true) : swappedStores [.Tuple ts k p] (.Tuple vs k2 p2) env = pure none := by
  unfold parNo at h
  rw [Bool.or_eq_true] at h
  unfold swappedStores
  rcases h with h | h
  · simp only [h, Bool.true_or, if_true]
  · obtain ⟨x, hx, hs⟩ := List.any_eq_true.mp h
    have key : ∀ f : Expr → Option Str, f x = none → ((ts.filterMap f).length != ts.length) = true := fun f e => by
      have := fm_lt hx e
      rw [bne_iff_ne]
      omega
    simp only
    split
    · rfl
    · split
      · rfl
      · rw [key _ (by cases x <;> first | rfl | cases hs)]
        simp
/-! ### the checker -/
section
variable (cc : CC)
/-- targets of a tuple of stores -/
def chkPTs (sc : Scope) (own : Str → Bool) : List PT → List Expr → Bool
  | [], xs => xs.isEmpty
  | .nm i :: ts, x :: xs => (match x with | .Name n _ => decide (cc.N[i]? = some n) && locB sc own n | _ => false) && notStar x && chkPTs sc own ts xs
  | .sub i k :: ts, x :: xs => (match x with | .Subscript (.Name n _) ix _ => decide (cc.N[i]? = some n) && visB sc n && okName n && notSlice ix && chkE cc k sc own ix | _ => false) && notStar x && chkPTs sc own ts xs
  | _, _ => false
/-- how a value comes to a name: by what the text is -/
def chkStore (sc : Scope) (n : Str) (py : Pos) (x : Expr) : Bool := match x with
  | .ListComp _ _ scope pos => match sc.names.lookup n with
    | some .local => decide (py.line = pos.line) && !(scope.names.any fun (m, k) => m == n && (k == .local || k == .cell))
    | some .cell => true
    | _ => false
  | .SetComp .. => false
  | .DictComp .. => false
  | _ => true
/-- expressions whose list is new -/
def isNew : E → Bool
  | .lst _ => true
  | .bin .mul _ _ => true
  | .bin .add _ _ => true
  | .bi .list _ => true
  | .bi .sorted _ => true
  | .comp .. => true
  | _ => false
def parOk (sc : Scope) (x y : Str) (px py : Pos) (a b : Expr) : Bool := decide (x ≠ y) && (match sc.names.lookup x with | some .local => true | _ => false) && (match sc.names.lookup y with | some .local => true | _ => false) &&
  notStar a && notStar b && decide (px.line = py.line) && !([a, b].all (foldedForSure 8)) && !([a, b].all (constantsAlone 8))
mutual
def chkS : S → Scope → (Str → Bool) → Stmt → Bool
  | .set i e, sc, own, s => match s with
    | .Assign [.Name n py] x _ => decide (cc.N[i]? = some n) && locB sc own n && chkStore sc n py x && chkE cc e sc own x
    | _ => false
  | .setO i e, sc, own, s => match s with
    | .Assign [.Name n py] x _ => decide (cc.N[i]? = some n) && locB sc own n && chkStore sc n py x && isNew e && chkE cc e sc own x
    | _ => false
  | .newD i, sc, own, s => match s with
    | .Assign [.Name n _] (.Dict [] [] _) _ => decide (cc.N[i]? = some n) && locB sc own n
    | _ => false
  | .asg tg e, sc, own, s => match s with
    | .Assign [.Tuple ts _ _] x _ => (match tg with | .tup tt => chkTgs cc sc own tt ts && tgsIn (List.range cc.N.length) tt | _ => false) && notTup x && chkE cc e sc own x
    | _ => false
  | .par i j a b, sc, own, s => match s with
    | .Assign [.Tuple [.Name x px, .Name y py] _ _] (.Tuple [l, r] _ _) _ => decide (cc.N[i]? = some x) && decide (cc.N[j]? = some y) && parOk sc x y px py l r && chkE cc a sc own l && chkE cc b sc own r
    | _ => false
  | .aug i sub e, sc, own, s => match s with
    | .AugAssign (.Name n _) op x _ => decide (cc.N[i]? = some n) && locB sc own n && decide (op = (if sub then Operator.Sub else Operator.Add)) && chkE cc e sc own x
    | _ => false
  | .put i k e, sc, own, s => match s with
    | .Assign [.Subscript (.Name n _) ix _] x _ => decide (cc.N[i]? = some n) && visB sc n && okName n && notSlice ix && chkE cc k sc own ix && chkE cc e sc own x
    | _ => false
  | .dput i k e, sc, own, s => match s with
    | .Assign [.Subscript (.Name n _) ix _] x _ => decide (cc.N[i]? = some n) && visB sc n && okName n && notSlice ix && chkE cc k sc own ix && chkE cc e sc own x
    | _ => false
  | .stores ts es, sc, own, s => match s with
    | .Assign [.Tuple xs _ _] (.Tuple vs k p) _ => parNo xs && chkPTs cc sc own ts xs && chkE cc (.tup es) sc own (.Tuple vs k p)
    | _ => false
  | .app i e, sc, own, s => match s with
    | .Expr (.Call (.Attribute (.Name n _) m p) [x] [] q) _ => decide (cc.N[i]? = some n) && visB sc n && okName n && decide (m = ("append" : Str)) && decide (p.endLine = q.line) && notStar x && chkE cc e sc own x
    | _ => false
  | .ex e, sc, own, s => match s with
    | .Expr x _ => notComp x && chkE cc e sc own x
    | _ => false
  | .ite c a b, sc, own, s => match s with
    | .If x l r _ => chkT cc c sc own x && chkSs a sc own l && chkSs b sc own r
    | _ => false
  | .whl c b, sc, own, s => match s with
    | .While x l [] _ => chkT cc c sc own x && chkSs b sc own l
    | _ => false
  | .for tg it b, sc, own, s => match s with
    | .For t x l [] _ => chkTg cc sc own tg t && tgOk (List.range cc.N.length) it tg && notSet x && chkI cc it sc own t x && chkSs b sc own l
    | _ => false
  | .ret e, sc, own, s => match s with
    | .Return (some x) _ => chkE cc e sc own x
    | _ => false
  | .retN, sc, own, s => match s with
    | .Return none _ => true
    | _ => false
  | .pass, sc, own, s => match s with
    | .Pass _ => true
    | _ => false
  | .brk, sc, own, s => match s with
    | .Break _ => true
    | _ => false
  | .cont, sc, own, s => match s with
    | .Continue _ => true
    | _ => false
  | .frz _, sc, own, s => false
def chkSs : Ss → Scope → (Str → Bool) → List Stmt → Bool
  | .nil, sc, own, xs => xs.isEmpty
  | .cons s ss, sc, own, xs => match s with
    | .frz _ => chkSs ss sc own xs
    | s => match xs with
      | x :: xs => chkS s sc own x && chkSs ss sc own xs
      | [] => false
end
end
theorem _root_.L2.PS.weak {X : Cx} {e : Stmt} {t t' : TS} (h : PS X e t) (f : ∀ D σ H, t' D σ H → t D σ H) : PS X e t' := ⟨fun pins s σ H D I q => h.run pins s σ H D I (f _ _ _ q)⟩
theorem _root_.L2.PSs.weak {X : Cx} {e : List Stmt} {t t' : TS} (h : PSs X e t) (f : ∀ D σ H, t' D σ H → t D σ H) : PSs X e t' := ⟨fun pins s σ H D I q => h.run pins s σ H D I (f _ _ _ q)⟩
theorem tAsg_weak {te te' : TE} {g : TG} (f : ∀ σ H Q, te' σ H Q → te σ H Q) : ∀ D σ H, tAsg te' g D σ H → tAsg te g D σ H := fun D σ H h => f σ H _ h
section
variable {X : Cx} {cc : CC} {sc : Scope} {own : Str → Bool} {G : Gh} {cl : Calls} {gl : List D}
theorem loc_of (C : Ctx X cc sc own G cl gl) {x : Str} (h : locB sc own x = true) : L2.Loc X.env.scope x ∧ (X.fn x = true ∨ X.env.scope.names.lookup x = some .local) := by
  rw [C.scope]
  unfold L2.Loc
  unfold locB at h
  split at h
  · rename_i q; exact ⟨.inl q, .inr q⟩
  · rename_i q; exact ⟨.inr q, .inl (C.fnn _ h)⟩
  · cases h
/-- a comprehension's parts -/
theorem comp_parts (C : Ctx X cc sc own G cl gl) {ol : List (Str × Nat)} {tg : Tg} {it : It} {c : OE} {e : E} {x : Expr} (h : chkE cc (.comp ol tg it c e) sc own x = true) :
    ∃ elt t i ifs scope pos, x = .ListComp elt [⟨t, i, ifs, 0⟩] scope pos ∧ BlkOk X.N X.env.scope scope ol ∧ tgOk (ol.map (·.2)) it tg = true ∧ notSet i = true ∧ PI X t i (TIt X.K G cl gl true it) ∧
      (∀ (s : Shared) (H : Hp) (C : Addr) (cs : List (Str × Addr)) (fp : List Addr), PG (X.blk s H scope (compEnvC scope cs C X.env) fp) t (gOf X.K tg)) ∧
      (∀ (s : Shared) (H : Hp) (C : Addr) (cs : List (Str × Addr)) (fp : List Addr), PTs (X.blk s H scope (compEnvC scope cs C X.env) fp) ifs (TIf X.K { G with E := E0 } cl gl c)) ∧
      ∀ (s : Shared) (H : Hp) (C : Addr) (cs : List (Str × Addr)) (fp : List Addr), PE (X.blk s H scope (compEnvC scope cs C X.env) fp) elt (T X.K { G with E := E0 } cl gl false e) := by
  simp only [chkE] at h
  split at h
  · rename_i elt t i ifs k scope pos
    simp only [Bool.and_eq_true, decide_eq_true_eq] at h
    obtain ⟨⟨⟨⟨⟨⟨⟨h1, h2⟩, h3⟩, h4⟩, h5⟩, h6⟩, h7⟩, h8⟩ := h
    subst h1
    exact ⟨elt, t, i, ifs, scope, pos, rfl, by rw [C.N, C.scope]; exact blkOk_by h2, h3, h4, sI it C _ _ h5 true, fun s H L cs fp => sTg (C.blk s H scope cs L fp) tg _ h6, fun s H L cs fp => sC c (C.blk s H scope cs L fp) _ h7, fun s H L cs fp => sE e (C.blk s H scope cs L fp) _ h8 false⟩
  · cases h
/-- name = value -/
theorem store_any (C : Ctx X cc sc own G cl gl) (kind : X.env.scope.kind = .function) {i : Nat} {n : Str} {py pos : Pos} {e : E} {x : Expr} {te : TE} (h1 : cc.N[i]? = some n) (h2 : locB sc own n = true) (h3 : chkStore sc n py x = true) (h4 : chkE cc e sc own x = true)
    (plain : PE X x te) (hcomp : ∀ ol tg it c e', e = .comp ol tg it c e' → tgOk (ol.map (·.2)) it tg = true → ∀ σ H Q, te σ H Q → tLc (TIt X.K G cl gl true it) (gOf X.K tg) (TIf X.K { G with E := E0 } cl gl c) (T X.K { G with E := E0 } cl gl false e') (ol.map (·.2)) σ H Q)
    (hl : ∀ elt gs scope p, x = .ListComp elt gs scope p → ∃ ol tg it c e', e = .comp ol tg it c e') : PS X (.Assign [.Name n py] x pos) (tAsg te (gName i)) := by
  obtain ⟨g1, g2⟩ := loc_of C h2
  have hN : X.N[i]? = some n := by rw [C.N]; exact h1
  cases hc : notComp x with
  | true => exact ps_set C.nd hN g1 plain (swaps_not hc) g2
  | false =>
    cases x <;> simp only [notComp, Bool.true_eq_false] at hc <;> simp only [chkStore, Bool.false_eq_true] at h3
    rename_i elt gs scope p
    split at h3
    · rename_i q
      simp only [Bool.and_eq_true, decide_eq_true_eq, Bool.not_eq_true'] at h3
      obtain ⟨ol, tg, it, c, e', rfl⟩ := hl _ _ _ _ rfl
      obtain ⟨elt', t, i', ifs, scope', pos', ex, k1, k2, k3, k4, k5, k6, k7⟩ := comp_parts C h4
      cases ex
      refine (ps_setLc C.calm C.nd hN (by rw [C.scope]; exact q) (sw_true kind (by rw [C.scope]; exact q) (by rw [beq_iff_eq]; exact h3.1) h3.2) k4 k1 k5 k6 k7 (iter_plain k3)).weak ?_
      exact tAsg_weak (hcomp _ _ _ _ _ rfl k2)
    · rename_i q
      exact ps_set C.nd hN g1 plain (swaps_cell (by show X.env.scope.names.lookup n = _; rw [C.scope]; exact q)) g2
    · cases h3
theorem comp_only {e : E} {elt : Expr} {gs : List Comprehension} {scope : Scope} {p : Pos} (h : chkE cc e sc own (.ListComp elt gs scope p) = true) : ∃ ol tg it c e', e = .comp ol tg it c e' := by
  cases e <;> first | (simp [chkE, isConst, callOf] at h; done) | exact ⟨_, _, _, _, _, rfl⟩ | (rename_i al it q; cases it <;> (simp [chkE] at h; done))
theorem sPTs (C : Ctx X cc sc own G cl gl) : ∀ (ts : List PT) (xs : List Expr), chkPTs cc sc own ts xs = true → PGs X xs (gPs X.K G cl gl ts) ∧ xs.all notStar = true ∧ xs.length = ts.length
  | [], xs, h => by
    simp only [chkPTs, List.isEmpty_iff] at h
    subst h
    exact ⟨pgs_nil, rfl, rfl⟩
  | .nm i :: ts, xs, h => by
    cases xs with
    | nil => simp [chkPTs] at h
    | cons x xs =>
      simp only [chkPTs, Bool.and_eq_true] at h
      obtain ⟨⟨h1, h2⟩, h3⟩ := h
      obtain ⟨g1, g2, g3⟩ := sPTs C ts xs h3
      refine ⟨pgs_cons ?_ g1 (by rw [assign_cons h2]; rfl), by rw [List.all_cons, h2, g2]; rfl, by rw [List.length_cons, g3]; rfl⟩
      cases x <;> simp only [Bool.and_eq_true, decide_eq_true_eq, Bool.false_eq_true] at h1
      obtain ⟨k1, k2⟩ := loc_of C h1.2
      exact pg_name C.nd (by rw [C.N]; exact h1.1) k1 k2
  | .sub i k :: ts, xs, h => by
    cases xs with
    | nil => simp [chkPTs] at h
    | cons x xs =>
      simp only [chkPTs, Bool.and_eq_true] at h
      obtain ⟨⟨h1, h2⟩, h3⟩ := h
      obtain ⟨g1, g2, g3⟩ := sPTs C ts xs h3
      refine ⟨pgs_cons ?_ g1 (by rw [assign_cons h2]; rfl), by rw [List.all_cons, h2, g2]; rfl, by rw [List.length_cons, g3]; rfl⟩
      split at h1
      · simp only [Bool.and_eq_true, decide_eq_true_eq] at h1
        obtain ⟨⟨⟨⟨k1, k2⟩, k3⟩, k4⟩, k5⟩ := h1
        exact pg_sub (pe_var (by rw [C.N]; exact k1) (vis_of C k2) (okName_of k3).1 (okName_of k3).2) (sE k C _ k5 false) set_list (fun v => assign_sub k4)
      · cases h1
theorem par_swapped {x y : Str} {px py pt pt2 : Pos} {kt k2 : Nat} {a b : Expr} {env : PySem.Env} (kind : env.scope.kind = .function) (h : parOk env.scope x y px py a b = true) :
    swappedStores [.Tuple [.Name x px, .Name y py] kt pt] (.Tuple [a, b] k2 pt2) env = pure (some [x, y]) := by
  unfold parOk at h
  simp only [Bool.and_eq_true, decide_eq_true_eq, Bool.not_eq_true'] at h
  obtain ⟨⟨⟨⟨⟨⟨⟨h1, h2⟩, h3⟩, h4⟩, h5⟩, h6⟩, h7⟩, h8⟩ := h
  have kx : env.kindOf x = some .local := by
    show env.scope.names.lookup x = _
    split at h2
    · assumption
    · cases h2
  have ky : env.kindOf y = some .local := by
    show env.scope.names.lookup y = _
    split at h3
    · assumption
    · cases h3
  have hb : env.blockKind = .function := by unfold PySem.Env.blockKind; rw [kind]; rfl
  have hd : (([x, y] : List Str).eraseDups.length != 2) = false := by
    have : ([x, y] : List Str).eraseDups = [x, y] := by
      simp [List.eraseDups_cons, Ne.symm h1]
    rw [this]; rfl
  unfold swappedStores
  have e1 : (env.kindOf x == some NameKind.local && px.line == ((([Expr.Name x px, Expr.Name y py] : List Expr).head?.map (·.pos.line)).getD 0)) = true := by rw [kx]; simp [Expr.pos]
  have e2 : (env.kindOf y == some NameKind.local && py.line == ((([Expr.Name x px, Expr.Name y py] : List Expr).head?.map (·.pos.line)).getD 0)) = true := by rw [ky, ← h6]; simp [Expr.pos]
  simp only [hb, List.filterMap_cons, List.filterMap_nil, e1, e2, if_true]
  rw [if_neg (show ¬ ((!([Expr.Name x px, Expr.Name y py].length == 2 || [Expr.Name x px, Expr.Name y py].length == 3) || [a, b].length != [Expr.Name x px, Expr.Name y py].length || ScopeKind.function != ScopeKind.function) = true) from by simp),
    if_neg (by cases a <;> first | (simp [notStar] at h4; done) | (cases b <;> first | (simp [notStar] at h5; done) | exact Bool.false_ne_true)), if_neg (show ¬ (([x, y].length != [Expr.Name x px, Expr.Name y py].length || [x, y].eraseDups.length != [x, y].length) = true) from by
      intro z
      rw [Bool.or_eq_true] at z
      rcases z with z | z
      · simp at z
      · have hd' : ([x, y].eraseDups.length != [x, y].length) = false := hd
        rw [hd'] at z; cases z),
    if_neg (by rw [h7]; exact Bool.false_ne_true), if_neg (by rw [h8]; exact Bool.false_ne_true)]

end
section
variable {cc : CC} {cl : Calls} {gl : List D}
mutual
theorem sS : ∀ (s : S) {X : Cx} {sc : Scope} {own : Str → Bool} {G : Gh}, Ctx X cc sc own G cl gl → X.env.scope.kind = .function → PassesOwn (model X.prog X.w) X.A X.env X.xe → ∀ (x : Stmt), chkS cc s sc own x = true → PS X x (TSt X.K G cl gl s)
  | .set i e, X, sc, own, G, C, kd, hp, x, h => by
    simp only [chkS] at h
    split at h
    · simp only [Bool.and_eq_true, decide_eq_true_eq] at h
      obtain ⟨⟨⟨h1, h2⟩, h3⟩, h4⟩ := h
      refine (store_any C kd h1 h2 h3 h4 (sE e C _ h4 false) (fun ol tg it c e' he hv σ H Q q => ?_) (fun elt gs scope p hx => ?_)).weak fun D σ H => S_set
      · subst he; exact T_comp ⟨rfl, rfl, rfl⟩ hv q
      · subst hx; exact comp_only h4
    · cases h
  | .setO i e, X, sc, own, G, C, kd, hp, x, h => by
    simp only [chkS] at h
    split at h
    · rename_i n py x' p'
      simp only [Bool.and_eq_true, decide_eq_true_eq] at h
      obtain ⟨⟨⟨⟨h1, h2⟩, h3⟩, h5⟩, h4⟩ := h
      have hn : PE X x' (TN X.K G cl gl e) := by
        cases e <;> simp only [isNew, Bool.false_eq_true] at h5
        · rename_i op a b
          cases op <;> simp only [isNew, Bool.false_eq_true] at h5
          · cases x' <;> simp only [chkE, Bool.and_eq_true, decide_eq_true_eq, Bool.false_eq_true] at h4
            obtain ⟨⟨k1, k2⟩, k3⟩ := h4
            subst k1
            exact (pe_op (opBin .add) (sE a C _ k2 true) (sE b C _ k3 true)).weak fun σ H Q => TN_add
          · cases x' <;> simp only [chkE, Bool.and_eq_true, decide_eq_true_eq, Bool.false_eq_true] at h4
            obtain ⟨⟨k1, k2⟩, k3⟩ := h4
            subst k1
            exact (pe_op (opBin .mul) (sE a C _ k2 true) (sE b C _ k3 true)).weak fun σ H Q => TN_mul
        · cases x' <;> simp only [chkE, Bool.false_eq_true] at h4
          exact (pe_lst (sEs _ C _ h4)).weak fun σ H Q => TN_lst
        · rename_i b a
          have main : (∀ σ H Q, TN X.K G cl gl (.bi b a) σ H Q → tCB (rBi X.K b) (tCons (T X.K G cl gl true a) tNil) σ H Q) → PE X x' (TN X.K G cl gl (.bi b a)) := fun f => by
            simp only [chkE] at h4
            split at h4
            · rename_i n l q
              obtain ⟨p, pos, rfl⟩ := callOf_eq q
              simp only [Bool.and_eq_true, decide_eq_true_eq] at h4
              obtain ⟨⟨⟨k1, k2⟩, k3⟩, k4⟩ := h4
              subst k1
              exact (pe_bi C.calm b (gl_of C k2) (C.blt _ (by cases b <;> decide +kernel)) (sE a C _ k4 true) (star_cons k3)).weak f
            · cases h4
          cases b <;> simp only [isNew, Bool.false_eq_true] at h5
          · exact main fun σ H Q => TN_list
          · exact main fun σ H Q => TN_sorted
        · rename_i ol tg it c e'
          obtain ⟨elt, t, i', ifs, scope, pos, rfl, k1, k2, k3, k4, k5, k6, k7⟩ := comp_parts C h4
          exact (pe_lc C.calm C.nd k4 k1 k5 k6 k7 (iter_plain k3)).weak fun σ H Q => TN_comp ⟨rfl, rfl, rfl⟩ k2
      refine (store_any C kd h1 h2 h3 h4 hn (fun ol tg it c e' he hv σ H Q q => ?_) (fun elt gs scope p hx => ?_)).weak fun D σ H => S_setO
      · subst he; exact TN_comp ⟨rfl, rfl, rfl⟩ hv q
      · subst hx; exact comp_only h4
    · cases h
  | .newD i, X, sc, own, G, C, kd, hp, x, h => by
    simp only [chkS] at h
    split at h
    · simp only [Bool.and_eq_true, decide_eq_true_eq] at h
      obtain ⟨g1, g2⟩ := loc_of C h.2
      exact (ps_set C.nd (by rw [C.N]; exact h.1) g1 pe_dnewK (swaps_not rfl) g2).weak fun D σ H => S_newD
    · cases h
  | .asg tg e, X, sc, own, G, C, kd, hp, x, h => by
    simp only [chkS] at h
    split at h
    · simp only [Bool.and_eq_true] at h
      obtain ⟨⟨h1, h2⟩, h3⟩ := h
      split at h1
      · rename_i ts tt
        rw [Bool.and_eq_true] at h1
        exact (ps_asg (sE e C _ h3 false) (sTg C (.tup tt) (.Tuple _ _ _) (show chkTgs cc sc own tt _ = true from h1.1)) sole_tup (stores_not h2) rfl).weak fun D σ H => S_asg (vs := List.range cc.N.length) h1.2
      · cases h1
    · cases h
  | .par i j a b, X, sc, own, G, C, kd, hp, x, h => by
    simp only [chkS] at h
    split at h
    · simp only [Bool.and_eq_true, decide_eq_true_eq] at h
      obtain ⟨⟨⟨⟨h1, h2⟩, h3⟩, h4⟩, h5⟩ := h
      have h3' := h3
      unfold parOk at h3'
      simp only [Bool.and_eq_true, decide_eq_true_eq, Bool.not_eq_true'] at h3'
      obtain ⟨⟨⟨⟨⟨⟨⟨k1, k2⟩, k3⟩, k4⟩, k5⟩, k6⟩, k7⟩, k8⟩ := h3'
      rw [← C.N] at h1 h2
      have hN1 := h1
      have hN2 := h2
      have hij : i ≠ j := fun z => by subst z; rw [hN1] at hN2; exact k1 (Option.some.inj hN2)
      refine (ps_par C.calm C.nd hN1 hN2 hij ?_ ?_ (pa_cons (sE a C _ h4 false) (pa_cons (sE b C _ h5 false) pa_nil (star_cons k5)) (star_cons k4)) (par_swapped kd (by rw [C.scope]; exact h3)) sole_tup).weak fun D σ H => S_par
      · rw [C.scope]; split at k2
        · assumption
        · cases k2
      · rw [C.scope]; split at k3
        · assumption
        · cases k3
    · cases h
  | .aug i sub e, X, sc, own, G, C, kd, hp, x, h => by
    simp only [chkS] at h
    split at h
    · simp only [Bool.and_eq_true, decide_eq_true_eq] at h
      obtain ⟨⟨⟨h1, h2⟩, h3⟩, h4⟩ := h
      obtain ⟨g1, g2⟩ := loc_of C h2
      subst h3
      cases sub with
      | true => exact (ps_aug C.nd (by rw [C.N]; exact h1) g1 (sE e C _ h4 false) ip_sub g2).weak fun D σ H => S_aug (sub := true)
      | false => exact (ps_aug C.nd (by rw [C.N]; exact h1) g1 (sE e C _ h4 false) ip_add g2).weak fun D σ H => S_aug (sub := false)
    · cases h
  | .put i k e, X, sc, own, G, C, kd, hp, x, h => by
    simp only [chkS] at h
    split at h
    · simp only [Bool.and_eq_true, decide_eq_true_eq] at h
      obtain ⟨⟨⟨⟨⟨h1, h2⟩, h3⟩, h6⟩, h4⟩, h5⟩ := h
      exact (ps_asg (sE e C _ h5 false) (pg_sub (pe_var (by rw [C.N]; exact h1) (vis_of C h2) (okName_of h3).1 (okName_of h3).2) (sE k C _ h4 false) set_list (fun v => assign_sub h6)) sole_sub rfl rfl).weak fun D σ H => S_put
    · cases h
  | .dput i k e, X, sc, own, G, C, kd, hp, x, h => by
    simp only [chkS] at h
    split at h
    · simp only [Bool.and_eq_true, decide_eq_true_eq] at h
      obtain ⟨⟨⟨⟨⟨h1, h2⟩, h3⟩, h6⟩, h4⟩, h5⟩ := h
      exact (ps_dput (by have := C.units; omega) (pe_var (by rw [C.N]; exact h1) (vis_of C h2) (okName_of h3).1 (okName_of h3).2) (sE k C _ h4 false) (sE e C _ h5 false) swaps_sub).weak fun D σ H => S_dput
    · cases h
  | .stores ts es, X, sc, own, G, C, kd, hp, x, h => by
    simp only [chkS] at h
    split at h
    · simp only [Bool.and_eq_true] at h
      obtain ⟨⟨h1, h2⟩, h3⟩ := h
      obtain ⟨g1, g2, g3⟩ := sPTs C ts _ h2
      obtain ⟨g4, g5⟩ := assign_len (env := X.env) g2
      exact (ps_asg (sE (.tup es) C _ h3 false) (pg_tup C.calm g1 (g4.trans g3) g5) sole_tup (stores_none h1) rfl).weak fun D σ H => S_stores
    · cases h
  | .app i e, X, sc, own, G, C, kd, hp, x, h => by
    simp only [chkS] at h
    split at h
    · simp only [Bool.and_eq_true, decide_eq_true_eq] at h
      obtain ⟨⟨⟨⟨⟨⟨h1, h2⟩, h3⟩, h4⟩, h5⟩, h6⟩, h7⟩ := h
      subst h4
      refine (ps_expr (pe_bm PySem.F.plainAttrs_list PySem.F.slot_list_append PySem.F.type_list_append mt_append (pe_var (by rw [C.N]; exact h1) (vis_of C h2) (okName_of h3).1 (okName_of h3).2) (pa_cons (sE e C _ h7 false) pa_nil (star_cons h6)) rfl ?_ (by rw [beq_iff_eq]; exact h5) (star_cons h6) (star_any rfl)) rfl).weak fun D σ H => S_app
      rw [star_cons h6]; rfl
    · cases h
  | .ex e, X, sc, own, G, C, kd, hp, x, h => by
    simp only [chkS] at h
    split at h
    · rw [Bool.and_eq_true] at h
      exact (ps_expr (sE e C _ h.2 false) (swaps_not h.1)).weak fun D σ H => S_ex
    · cases h
  | .ite c a b, X, sc, own, G, C, kd, hp, x, h => by
    simp only [chkS] at h
    split at h
    · simp only [Bool.and_eq_true] at h
      exact (ps_if (sT c C _ h.1.1) (sSs a C kd hp _ h.1.2) (sSs b C kd hp _ h.2)).weak fun D σ H => S_ite
    · cases h
  | .whl c b, X, sc, own, G, C, kd, hp, x, h => by
    simp only [chkS] at h
    split at h
    · simp only [Bool.and_eq_true] at h
      exact (ps_while hp (sT c C _ h.1) (sSs b C kd hp _ h.2)).weak fun D σ H => S_whl
    · cases h
  | .for tg it b, X, sc, own, G, C, kd, hp, x, h => by
    simp only [chkS] at h
    split at h
    · simp only [Bool.and_eq_true] at h
      obtain ⟨⟨⟨⟨h1, h2⟩, h3⟩, h4⟩, h5⟩ := h
      exact (ps_for hp C.calm (sI it C _ _ h4 false) (sTg C tg _ h1) (sSs b C kd hp _ h5) (iter_plain h3)).weak fun D σ H => S_for (vs := List.range cc.N.length) h2
    · cases h
  | .ret e, X, sc, own, G, C, kd, hp, x, h => by
    simp only [chkS] at h
    split at h
    · exact (ps_ret (sE e C _ h false)).weak fun D σ H => S_ret
    · cases h
  | .retN, X, sc, own, G, C, kd, hp, x, h => by
    simp only [chkS] at h
    split at h
    · exact ps_retN.weak fun D σ H => S_retN
    · cases h
  | .pass, X, sc, own, G, C, kd, hp, x, h => by
    simp only [chkS] at h
    split at h
    · exact ps_pass.weak fun D σ H => S_pass
    · cases h
  | .brk, X, sc, own, G, C, kd, hp, x, h => by
    simp only [chkS] at h
    split at h
    · exact ps_break.weak fun D σ H => S_brk
    · cases h
  | .cont, X, sc, own, G, C, kd, hp, x, h => by
    simp only [chkS] at h
    split at h
    · exact ps_continue.weak fun D σ H => S_cont
    · cases h
  | .frz i, X, sc, own, G, C, kd, hp, x, h => by simp [chkS] at h
theorem sSs : ∀ (ss : Ss) {X : Cx} {sc : Scope} {own : Str → Bool} {G : Gh}, Ctx X cc sc own G cl gl → X.env.scope.kind = .function → PassesOwn (model X.prog X.w) X.A X.env X.xe → ∀ (xs : List Stmt), chkSs cc ss sc own xs = true → PSs X xs (TSs X.K G cl gl ss)
  | .nil, X, sc, own, G, C, kd, hp, xs, h => by
    simp only [chkSs, List.isEmpty_iff] at h
    subst h
    exact pss_nil.weak fun D σ H => S_nil
  | .cons s ss, X, sc, own, G, C, kd, hp, xs, h => by
    have main : (∀ i, s ≠ .frz i) → PSs X xs (TSs X.K G cl gl (.cons s ss)) := fun hs => by
      cases xs with
      | nil => cases s <;> first | (simp [chkSs] at h; done) | exact (hs _ rfl).elim
      | cons x xs =>
        have h' : chkS cc s sc own x = true ∧ chkSs cc ss sc own xs = true := by
          cases s <;> first | (simpa [chkSs] using h) | exact (hs _ rfl).elim
        exact (pss_cons (sS s C kd hp x h'.1) (sSs ss C kd hp xs h'.2)).weak fun D σ H => S_cons
    cases s with
    | frz i => exact (sSs ss C kd hp xs (by simpa [chkSs] using h)).weak fun D σ H => S_frz
    | _ => exact main fun _ z => by cases z
end
end
end Eng

end
section
set_option Elab.async false
set_option linter.all false
set_option maxRecDepth 100000
set_option maxHeartbeats 16000000
set_option autoImplicit false
/-! Eng, part L: the table of defs; each keeps the promise that the evaluator tells. -/
namespace Eng
open PySem PySem.Spec PyProof.Rows L2

/-- a def of the text: its name, parameters, names by slots, its statement, what its body stands for -/
structure FD where
  name : Str
  ps : List Str
  N : List Str
  st : Stmt
  body : Ss
  /-- does it make generators? -/
  gen : Bool := false
/-- an entry: a def that is evaluated, or one whose promise is shown by hand -/
inductive Ent where
  | df (d : FD)
  | pr (name : Str) (n : Nat) (sem : List D → Sta → R D)
def Ent.sig : Ent → Str × Nat
  | .df d => (d.name, d.ps.length)
  | .pr x n _ => (x, n)
def start0 (d : FD) (ds : List D) : Env := ds.map Slot.val ++ List.replicate (d.N.length - ds.length) Slot.emp
/-- what a body's end is for the caller -/
def endOf : R Fl → R D
  | .ok (.nx _) st => .ok .none st
  | .ok (.ret d) st => .ok d st
  | .ok _ _ => .bad
  | .exc e st => .exc e st
  | .bad => .bad
def run (gl : List D) (tab : List Ent) : Nat → Calls
  | 0, _, _, _ => .bad
  | k + 1, f, ds, st => match tab[f]? with
    | none => .bad
    | some (.pr _ n sem) => if ds.length = n then sem ds st else .bad
    | some (.df d) => if ds.length = d.ps.length then endOf (execs (run gl tab k) gl d.body (start0 d ds) st) else .bad
def ccOf (tab : List Ent) (gls : List Str) (N : List Str) (gen : Bool := false) (rep : Bool := false) : CC := { N := N, fns := tab.map Ent.sig, gls := gls, gen := gen, rep := rep }

/-- what the program's top has left -/
structure Tab (L0 : Nat) (P : Program) (w : World) (K : PySem.W.Frag) (mg : Str → Option Value) (base : Heap) (TB : List Addr) (xa : Exn → Value → Option Addr → Hp → Prop) (tab : List Ent) (gls : List Str) (gl : List D) : Prop where
  blt : ∀ x ∈ bltB, mg x = none
  con : ∀ (i : Nat) (x : Str), gls[i]? = some x → ∃ u v d, mg x = some u ∧ RelV v u ∧ gl[i]? = some d ∧ ∀ sa F, Rp K sa F v d
  df : ∀ (f : Nat) (d : FD), tab[f]? = some (.df d) → ∃ fa dat, Fun K d.name d.name d.st fa dat ∧ mg d.name = some (.ref fa) ∧ Binds K dat d.ps [] ∧ FnScope d.N d.ps (defScope d.st) ∧ d.ps.length ≤ d.N.length ∧
    chkSs (ccOf tab gls d.N d.gen) d.body (defScope d.st) (fun _ => true) (defBody d.st) = true ∧ (d.gen = true → ∃ c P', dat.code = .ref c ∧ GxR.TabB base mg c P' ∧ P' ∈ TB)
  pr : ∀ (f : Nat) (x : Str) (n : Nat) (sem : List D → Sta → R D), tab[f]? = some (.pr x n sem) → ∃ fa dat ps, ps.length = n ∧ FnOk P w K mg base (L2.CX P w) L0 fa dat ps (spF K TB xa (fun _ => sem) f n) ∧ mg x = some (.ref fa) ∧ PySem.W.keepIn K (.ref fa) = true ∧ Binds K dat ps []

section
variable {P : Program} {w : World} {K : PySem.W.Frag} {mg : Str → Option Value} {base : Heap} {xa : Exn → Value → Option Addr → Hp → Prop} {TB : List Addr} {tab : List Ent} {gls : List Str} {gl : List D} {L0 : Nat}
theorem RpA.getv {sa : SA} {F : Hp} {vs : List V} {ds : List D} (r : RpA K sa F vs ds) {n m : Nat} {i : Nat} {s : Slot} (h : (ds.map Slot.val ++ List.replicate n Slot.emp)[i]? = some s) : SlotOk K sa F F s (vs.map some ++ List.replicate m (none : Option V))[i]? := by
  by_cases hi : i < ds.length
  · rw [List.getElem?_append_left (by rw [List.length_map]; exact hi), List.getElem?_map] at h
    cases q : ds[i]? with
    | none => rw [q] at h; cases h
    | some d =>
      rw [q] at h; cases h
      obtain ⟨y, h1, h2⟩ := r.get q
      refine ⟨y, ?_, h2⟩
      rw [List.getElem?_append_left (by rw [List.length_map, r.length]; exact hi), List.getElem?_map, h1]
      rfl
  · rw [List.getElem?_append_right (by rw [List.length_map]; omega)] at h
    have := List.mem_of_getElem? h
    rw [List.eq_of_mem_replicate this]
    trivial
theorem start_not {ds : List D} {n i : Nat} : (∀ es, (ds.map Slot.val ++ List.replicate n Slot.emp)[i]? ≠ some (.lst es)) ∧ ∀ es, (ds.map Slot.val ++ List.replicate n Slot.emp)[i]? ≠ some (.dic es) := by
  have key : ∀ s, (ds.map Slot.val ++ List.replicate n Slot.emp)[i]? = some s → (∃ d, s = .val d) ∨ s = .emp := fun s h => by
    have := List.mem_of_getElem? h
    rcases List.mem_append.mp this with m | m
    · obtain ⟨d, _, e⟩ := List.mem_map.mp m
      exact .inl ⟨d, e.symm⟩
    · exact .inr (List.eq_of_mem_replicate m)
  refine ⟨fun es h => ?_, fun es h => ?_⟩
  · rcases key _ h with ⟨d, e⟩ | e
    · cases e
    · cases e
  · rcases key _ h with ⟨d, e⟩ | e
    · cases e
    · cases e
/-- at a def's entry -/
theorem Rep.start {sa : SA} {F H : Hp} {st : Sta} {E : XK} {vs : List V} {ds : List D} {d : FD} (h1 : Sub F H) (h2 : StaOk sa st F H) (r : RpA K sa F vs ds) (hl : vs.length = d.ps.length) (hN : d.ps.length ≤ d.N.length) :
    Rep K { H0 := H, F0 := F, sa := sa, E := E, xa := xa } (start0 d ds) sa (L2.start d.N vs) F H st := by
  refine ⟨h1, fun i s e => ?_, ?_, fun i j a z _ => ?_, fun i a z => ?_, h2, fun _ _ _ e => e, fun _ z => .inl z, Sub.refl, .inr rfl, fun z b e => ?_⟩
  · have q := r.getv (m := d.N.length - vs.length) (show (ds.map Slot.val ++ List.replicate (d.N.length - ds.length) Slot.emp)[i]? = some s from e)
    cases s with
    | emp => trivial
    | val _ => exact q
    | lst es => exact (start_not.1 es e).elim
    | dic es => exact (start_not.2 es e).elim
  · unfold start0 L2.start
    rw [List.length_append, List.length_append, List.length_map, List.length_map, List.length_replicate, List.length_replicate, r.length]
  · rcases z.1 with ⟨es, q⟩ | ⟨es, q⟩
    · exact (start_not.1 es q).elim
    · exact (start_not.2 es q).elim
  · rcases z.1 with ⟨es, q⟩ | ⟨es, q⟩
    · exact (start_not.1 es q).elim
    · exact (start_not.2 es q).elim
  · have z' : sa.st = none := z
    rw [z'] at e
    exact e.elim
theorem Rep.cstp {E : XK} {sa : SA} {F H F' H' : Hp} {ρ' : Env} {σ' : L2.St} {st' : Sta} (R : Rep K { H0 := H, F0 := F, sa := sa, E := E, xa := xa } ρ' sa σ' F' H' st') : CStp sa F H F' H' st' :=
  ⟨R.sub, R.sub0, R.base, fun b z => R.new b z, R.sta⟩
/-- a def by its body, with its code -/
theorem okC {x qual : Str} {st : Stmt} {f : Addr} {fd : FuncData} {N ps : List Str} {k : Nat} {sp : Sp} (Fu : Fun K x qual st f fd) (S : FnScope N ps (defScope st)) (hl : ∀ vs H Q E, sp vs H Q E → vs.length = ps.length)
    (hb : ∀ (cdv : Value), fd.code = cdv → ∀ (A : Around) (outer : List PySem.Env) (s : Shared) (H : Hp) (vs : List V) (Q : VK) (E : XK), Room k (A.deeper (envOfC qual (defScope st) s.heap.objs.size f cdv)) → sp vs H Q E →
      ∃ t, PSs (cxOf (L2.CX P w) P w K mg base N qual (defScope st) f cdv A outer s H E) (defBody st) t ∧ t { nx := fun _ H' => Q .non H', rt := Q } (L2.start N vs) H) : FnOk P w K mg base (L2.CX P w) (k + 1) f fd ps sp := by
  obtain ⟨oc, od, kV, doc, pm, an, cdv, ct, osl, rfl, lk, hc⟩ := Fu.ex
  exact fn_of lk hc S hl fun A outer s H vs Q E hr z => hb cdv rfl A outer s H vs Q E hr z
/-- a body's context -/
theorem ctx_ofR (T : Tab L0 P w K mg base TB xa tab gls gl) {k : Nat} (ih : ∀ (f : Nat) (x : Str) (n : Nat), (tab.map Ent.sig)[f]? = some (x, n) → (∀ ds st, run gl tab k f ds st ≠ .bad → ds.length = n) ∧ ∃ fa dat ps, ps.length = n ∧ FnOk P w K mg base (L2.CX P w) (k + L0) fa dat ps (spF K TB xa (run gl tab k) f n) ∧ mg x = some (.ref fa) ∧ PySem.W.keepIn K (.ref fa) = true ∧ Binds K dat ps [])
    {N ps : List Str} {qual : Str} {scope : Scope} {f : Addr} {cdv : Value} {A : Around} {outer : List PySem.Env} {s : Shared} {H F : Hp} {sa : SA} {E : XK} {gen rep : Bool} (S : FnScope N ps scope) (hr : Room (k + L0) (A.deeper (envOfC qual scope s.heap.objs.size f cdv))) (htb : sa.tb = TB) (hgen : gen = true → ∃ c P', cdv = .ref c ∧ GxR.TabB base mg c P' ∧ P' ∈ TB) (hrep : rep = true → A.guards = some []) :
    Ctx (cxOf (L2.CX P w) P w K mg base N qual scope f cdv A outer s H E) (ccOf tab gls N gen rep) scope (fun _ => true) { H0 := H, F0 := F, sa := sa, E := E, xa := xa } (run gl tab k) gl := by
  refine ⟨rfl, rfl, S.nd, rfl, ?_, fun _ _ => rfl, T.blt, fun f x n h => ?_, passes_call (takes_of rfl rfl rfl rfl) (fun _ _ _ _ h => h), T.con, fun z => ?_, fun z => ?_⟩
  · have h1 := hr.un
    show (A.deeper (envOfC qual scope s.heap.objs.size f cdv)).units + 65 < cLine
    omega
  · obtain ⟨g0, fa, dat, ps, h0, h1, h2, h3, h4⟩ := ih f x n h
    exact ⟨g0, k + L0, fa, dat, ps, by rw [htb]; exact h1, hr, h2, h3, h4⟩
  · exact (show (A.deeper (envOfC qual scope s.heap.objs.size f cdv)).guards = A.guards from rfl).trans (hrep z)
  · obtain ⟨c, P', h1, h2, h3⟩ := hgen z
    exact ⟨c, P', k + L0, h2, h1, by rw [htb]; exact h3, hr⟩
theorem ctx_of (T : Tab L0 P w K mg base TB xa tab gls gl) {k : Nat} (ih : ∀ (f : Nat) (x : Str) (n : Nat), (tab.map Ent.sig)[f]? = some (x, n) → (∀ ds st, run gl tab k f ds st ≠ .bad → ds.length = n) ∧ ∃ fa dat ps, ps.length = n ∧ FnOk P w K mg base (L2.CX P w) (k + L0) fa dat ps (spF K TB xa (run gl tab k) f n) ∧ mg x = some (.ref fa) ∧ PySem.W.keepIn K (.ref fa) = true ∧ Binds K dat ps [])
    {N ps : List Str} {qual : Str} {scope : Scope} {f : Addr} {cdv : Value} {A : Around} {outer : List PySem.Env} {s : Shared} {H F : Hp} {sa : SA} {E : XK} {gen : Bool} (S : FnScope N ps scope) (hr : Room (k + L0) (A.deeper (envOfC qual scope s.heap.objs.size f cdv))) (htb : sa.tb = TB) (hgen : gen = true → ∃ c P', cdv = .ref c ∧ GxR.TabB base mg c P' ∧ P' ∈ TB) :
    Ctx (cxOf (L2.CX P w) P w K mg base N qual scope f cdv A outer s H E) (ccOf tab gls N gen) scope (fun _ => true) { H0 := H, F0 := F, sa := sa, E := E, xa := xa } (run gl tab k) gl :=
  ctx_ofR T ih S hr htb hgen (rep := false) fun z => nomatch z
theorem run_len (k : Nat) (f : Nat) (x : Str) (n : Nat) (h : (tab.map Ent.sig)[f]? = some (x, n)) (ds : List D) (st : Sta) (hb : run gl tab k f ds st ≠ .bad) : ds.length = n := by
  rw [List.getElem?_map] at h
  cases k with
  | zero => exact (hb rfl).elim
  | succ k =>
    simp only [run] at hb
    cases q : tab[f]? with
    | none => rw [q] at h; cases h
    | some e =>
      rw [q] at h hb
      cases e with
      | df d =>
        cases h
        simp only at hb
        split at hb
        · assumption
        · exact (hb rfl).elim
      | pr y m sem =>
        cases h
        simp only at hb
        split at hb
        · assumption
        · exact (hb rfl).elim
/-- every def keeps what the evaluator tells -/
theorem all_ok (T : Tab L0 P w K mg base TB xa tab gls gl) : ∀ (k : Nat) (f : Nat) (x : Str) (n : Nat), (tab.map Ent.sig)[f]? = some (x, n) → (∀ ds st, run gl tab k f ds st ≠ .bad → ds.length = n) ∧
    ∃ fa dat ps, ps.length = n ∧ FnOk P w K mg base (L2.CX P w) (k + L0) fa dat ps (spF K TB xa (run gl tab k) f n) ∧ mg x = some (.ref fa) ∧ PySem.W.keepIn K (.ref fa) = true ∧ Binds K dat ps []
  | 0, f, x, n, h => by
    refine ⟨run_len 0 f x n h, ?_⟩
    have none0 : ∀ vs H Q E, ¬ spF K TB xa (run gl tab 0) f n vs H Q E := fun vs H Q E z => by
      obtain ⟨_, sa, F, st, ds, _, _, _, _, q⟩ := z
      exact q
    rw [List.getElem?_map] at h
    cases q : tab[f]? with
    | none => rw [q] at h; cases h
    | some e =>
      rw [q] at h
      cases e with
      | df d =>
        cases h
        obtain ⟨fa, dat, h1, h2, h3, h4, h5, h6, h7⟩ := T.df f d q
        exact ⟨fa, dat, d.ps, rfl, ⟨fun vs H Q E z => (none0 vs H Q E z).elim, fun A outer s H args us vs Q E _ _ _ _ z => (none0 vs H Q E z).elim⟩, h2, h1.kp, h3⟩
      | pr y m sem =>
        cases h
        obtain ⟨fa, dat, ps, h0, h1, h2, h3, h4⟩ := T.pr f _ _ sem q
        exact ⟨fa, dat, ps, h0, ⟨fun vs H Q E z => (none0 vs H Q E z).elim, fun A outer s H args us vs Q E _ _ _ _ z => (none0 vs H Q E z).elim⟩, h2, h3, h4⟩
  | k + 1, f, x, n, h => by
    refine ⟨run_len (k + 1) f x n h, ?_⟩
    have ih := all_ok T k
    rw [List.getElem?_map] at h
    cases q : tab[f]? with
    | none => rw [q] at h; cases h
    | some e =>
      rw [q] at h
      cases e with
      | pr y m sem =>
        cases h
        obtain ⟨fa, dat, ps, h0, h1, h2, h3, h4⟩ := T.pr f _ _ sem q
        refine ⟨fa, dat, ps, h0, (h1.mono (by omega)).imp fun vs H Q E z => ?_, h2, h3, h4⟩
        obtain ⟨hl, sa, F, st, ds, g0, g1, g2, g3, g4⟩ := z
        refine ⟨hl, sa, F, st, ds, g0, g1, g2, g3, ?_⟩
        have hd := g3.length.symm.trans hl
        simp only [run, q, hd, if_true] at g4
        exact g4
      | df d =>
        cases h
        obtain ⟨fa, dat, h1, h2, h3, h4, h5, h6, h7⟩ := T.df f d q
        refine ⟨fa, dat, d.ps, rfl, ?_, h2, h1.kp, h3⟩
        rw [show k + 1 + L0 = (k + L0) + 1 by omega]
        refine okC h1 h4 (fun vs H Q E z => z.1) fun cdv hcd A outer s H vs Q E hr z => ?_
        obtain ⟨hl, sa, F, st, ds, g0, g1, g2, g3, g4⟩ := z
        have hd : ds.length = d.ps.length := by rw [← g3.length]; exact hl
        have C := ctx_of T ih (N := d.N) (ps := d.ps) (qual := d.name) (scope := defScope d.st) (f := fa) (cdv := cdv) (A := A) (outer := outer) (s := s) (H := H) (F := F) (sa := sa) (E := E) (gen := d.gen) h4 (hr.mono (by omega)) g0 (fun z => by rw [← hcd]; exact h7 z)
        refine ⟨_, sSs d.body C h4.kind (passes_of rfl) (defBody d.st) h6, start0 d ds, sa, F, st, Rep.start g1 g2 g3 hl h5, ?_⟩
        simp only [run, q, hd, if_true] at g4
        show Fin K _ sa F (execs (run gl tab k) gl d.body (start0 d ds) st) _
        revert g4
        cases execs (run gl tab k) gl d.body (start0 d ds) st with
        | bad => exact fun g4 => g4
        | exc e st' => exact fun g4 ρ' σ' F' H' R s' cls dx hx => g4 F' H' cls dx R.cstp hx
        | ok fl st' =>
          cases fl with
          | nx ρ' => exact fun g4 σ' F' H' R s' => g4 F' H' _ R.cstp .non
          | ret d => exact fun g4 ρ' σ' F' H' v R s' hv => g4 F' H' v R.cstp hv
          | brk ρ' => exact fun g4 => g4.elim
          | ct ρ' => exact fun g4 => g4.elim
end
end Eng

end
section
set_option Elab.async false
set_option linter.all false
set_option maxRecDepth 100000
set_option maxHeartbeats 16000000
set_option autoImplicit false
/-! Eng, part M: the law's own state: what its helpers mean; the law's call. -/
namespace Eng
open PySem PySem.Spec PyProof.Rows L2

/-! ### the law's state -/
def mixS (s : Int) : Int := (s * 48271 + 12345) % 2147483647
/-- a draw below m -/
def drawN (st : List Int × Int) (m : Int) : Int × (List Int × Int) :=
  match st.1.dropWhile (· == 0) with
  | v :: r => (v % m, (v / m :: r, st.2))
  | [] => (mixS st.2 / 64 % m, ([], mixS st.2))
def drawS : List D → Sta → R D
  | [.dict [(.none, .none)], .int m], some (cells, seed) => if 0 < m ∧ m < 1073741824 ∧ 0 ≤ seed ∧ seed < 2147483648 then .ok (.int (drawN (cells, seed) m).1) (some (drawN (cells, seed) m).2) else .bad
  | _, _ => .bad
def seedN (ns : List Int) : Int := ns.foldl (fun s c => (s * 31 + c) % 1000003) 7
def absN (n : Int) : Int := if n < 0 then -n else n
section
variable {K : PySem.W.Frag} {sa : SA} {F : Hp}
theorem Rp.tok {v : V} (h : Rp K sa F v stTok) : ∃ a c, sa.st = some (a, c) ∧ v = .ref a := by
  generalize q : stTok = d at h
  cases h with
  | sta h => exact ⟨_, _, h, rfl⟩
  | dic h r =>
    rename_i ds
    unfold stTok dictD at q
    injection q with q
    cases ds with
    | nil => cases q
    | cons p ds =>
      rw [List.map_cons] at q
      injection q with q1 q2
      obtain ⟨k, d⟩ := p
      cases k <;> cases q1
  | _ => cases q
end
theorem mixS_range (s : Int) : 0 ≤ mixS s ∧ mixS s < 2147483647 := ⟨Int.emod_nonneg _ (by decide), Int.emod_lt_of_pos _ (by decide)⟩
theorem log2_small {n : Int} (h0 : 0 ≤ n) (h : n < 2147483648) : n.natAbs.log2 + (48271 : Int).natAbs.log2 < 1000000 := by
  have h1 : n.natAbs.log2 < 31 ∨ n.natAbs = 0 := by
    by_cases z : n.natAbs = 0
    · exact .inr z
    · exact .inl ((Nat.log2_lt z).mpr (by omega))
  have h2 : (48271 : Int).natAbs.log2 ≤ 20 := by decide +kernel
  rcases h1 with h1 | h1
  · omega
  · rw [h1]; have : Nat.log2 0 = 0 := by decide +kernel
    omega
theorem cmul_small {n m : Int} (h0 : 0 ≤ n) (h : n < 2 ^ 64) : CMul n m := .inl ⟨by omega, h⟩
theorem drawS_cases (ds : List D) (st : Sta) : drawS ds st = .bad ∨ ∃ m cells seed, ds = [stTok, .int m] ∧ st = some (cells, seed) ∧ (0 < m ∧ m < 1073741824 ∧ 0 ≤ seed ∧ seed < 2147483648) ∧ drawS ds st = .ok (.int (drawN (cells, seed) m).1) (some (drawN (cells, seed) m).2) := by
  unfold drawS
  split
  · split
    · rename_i h
      exact .inr ⟨_, _, _, rfl, rfl, h, rfl⟩
    · exact .inl rfl
  · exact .inl rfl
end Eng

end
section
set_option Elab.async false
set_option linter.all false
set_option maxRecDepth 100000
set_option maxHeartbeats 16000000
/-! Gex, part A: an own exception class over an own class over ValueError; its __init__ says super().__init__(rule), self.rule = rule, self.index = index. -/
namespace PySem
namespace GEX
open PySem.W PySem.Calls PyProof.Rows PySem.HandSPX

def gA (p0 p1 p2 : Pos) : Arguments := { posonlyargs := [], args := [{ arg := "self", annotation := none, pos := p0 }, { arg := "rule", annotation := none, pos := p1 }, { arg := "index", annotation := none, pos := p2 }], vararg := none, kwonlyargs := [], kw_defaults := [], kwarg := none, defaults := [] }
def gB (q0 q1 q2 q3 q4 q5 q6 q7 q8 q9 q10 q11 q12 q13 : Pos) : List Stmt :=
  [.Expr (.Call (.Attribute (.Call (.Name "super" q0) [] [] q1) "__init__" q2) [.Name "rule" q3] [] q4) q5,
   .Assign [.Attribute (.Name "self" q6) "rule" q7] (.Name "rule" q8) q9,
   .Assign [.Attribute (.Name "self" q10) "index" q11] (.Name "index" q12) q13]
def gS : Scope := { kind := .function, names := [(PySem.Str.ofString "self", .local), (PySem.Str.ofString "rule", .local), (PySem.Str.ofString "index", .local), (PySem.Str.ofString "__class__", .free), (PySem.Str.ofString "super", .globalImplicit)], isGenerator := false, isCoroutine := false, more := [] }
/-- what the written part says of GraphError, at C, of its __init__, at fI -/
structure GeTxt (prog : Program) (K : Frag) (mg : Str → Option Value) (C fI : Addr) : Prop where
  gC : mg "GraphError" = some (.ref C)
  cls : ∃ nm q N bs bm sn sub ab col dd k0 k1 k2 k3 k5, K.lookup C = some (excClassObj nm q C N bs bm true sn sub ab col dd k0 k1 k2 k3 k5 "ValueError.__new__") ∧ refsVE bm = true
  sa : findIn K (.ref C) "__setattr__" = some (some (.builtin "object.__setattr__"))
  ga : findIn K (.ref C) "__getattribute__" = some (some (.builtin "BaseException.__getattribute__"))
  gg : findIn K (.ref C) "__getattr__" = some none
  noR : findIn K (.ref C) "rule" = some none
  noI : findIn K (.ref C) "index" = some none
  iC : findIn K (.ref C) "__init__" = some (some (.ref fI))
  tC : typeIn K (.ref fI) = some (.type "function")
  kC : keepIn K (.ref C) = true
  exC : subIn K (.ref C) (.type "BaseException") = some true
  tyC : typeIn K (.ref C) = some (.type "type")
  hdC : hasDictIn K C = true
  te : exmOne K (.ref C) (.ref C) = some true
  sup : ks_superIn K C C "__init__" = some (some (.builtin "ValueError.__init__"))
  sVE : subIn K (.ref C) (.type "ValueError") = some true
  tp : nsIn K cStatics "thirdparty.any" = some none
  mC : mroIn K C (.ref C) = some true
  supN : mg "super" = none
  htop : (prog.main.scope.names.lookup ("super" : Str)).isSome = false
  fn : ∃ (oc : Value) (od : Option Addr) (doc pm : Value) (an : Option Addr) (cda cc : Addr) (ct : Value) (osl : Array (Option Value)) (p0 p1 p2 q0 q1 q2 q3 q4 q5 q6 q7 q8 q9 q10 q11 q12 q13 : Pos) (ccl : Value) (cdd : Option Addr) (vs : Array Value) (ccs : Array (Option Value)) (file : Str) (tf : Tok) (cl : Value) (cld : Option Addr) (csl : Array (Option Value)),
    K.lookup fI = some ⟨oc, od, .func (ksFn "__init__" "GraphError.__init__" (gA p0 p1 p2) (gB q0 q1 q2 q3 q4 q5 q6 q7 q8 q9 q10 q11 q12 q13) gS .none .none doc pm an (.ref cda) ct cc), osl⟩ ∧ codeIn K (.ref cda) "GraphError.__init__" = true ∧
    K.lookup cda = some ⟨ccl, cdd, .fields vs, ccs⟩ ∧ vs[2]? = some (.str file tf) ∧ ((prog.main.file : Str) == file) = true ∧
    K.lookup cc = some ⟨cl, cld, .cell (some (.ref C)), csl⟩ ∧ (q2.endLine == q4.line) = true
/-- what __init__ leaves of a fresh exception at x -/
structure InitEnd (h h' : Heap) (x C dx t1 : Addr) (v1 v2 : Value) : Prop where
  keep : ∀ b o, b ≠ x → h.get? b = some o → h'.get? b = some o
  obj : h'.get? x = some { cls := .ref C, dict := some dx, data := .fields #[.ref t1, .none, .none, .none, .bool false, .none] }
  dbig : h.objs.size ≤ dx
  dne : dx ≠ x
  ns : h'.Ns1 dx (fun y => if y = "index" then some v2 else if y = "rule" then some v1 else none)
section
variable {prog : Program} {w : World} {A : Around} {E : Value → Shared → Prop} {R : Result → Shared → Prop} {s : Shared} {K : Frag} {mg mb : Str → Option Value} {C fI : Addr}
theorem ldC {M : Model} {s : Shared} {name : Str} {scope : Scope} {L a : Addr} {cd : Value} {cells : List (Str × Addr)} {m : Str → Option Value} {x : Str} {pos : Pos} {v : Value} {Q : Value → Shared → Prop} {A : Around} {E : Value → Shared → Prop} (hn : s.heap.Ns L m) (hv : m x = some v) (h : Q v s)
    (hk : scope.kind = .function := by rfl) (hl : (envX name scope L a cd cells).kindOf x = some .local := by rfl) (hd : (x == ("__debug__" : Str)) = false := by decide) :
    wpAny M A (eval (.Name x pos) (envX name scope L a cd cells)) Q E s := wpAny_Name (wpAny_loadName_local hk hl hn hv h) hd
/-- the wrapper called -/
theorem call_mw {h : Heap} {g : Array GenState} {d : Drawn} {t : Nat} {os : OsState} {nm q : Str} {N : Addr} {bs bm : List Value} {hdct : Bool} {sn : List Str} {sub : List Value} {ab : Bool} {col : Option Bool} {dd : Option Addr} {k0 k1 k2 k3 k5 : Option Value} {u e t0 : Addr} {rest : List Value} {Q : Value → Shared → Prop}
    (hC : h.get? C = some (excClassObj nm q C N bs bm hdct sn sub ab col dd k0 k1 k2 k3 k5 "ValueError.__new__")) (he : h.get? e = some (excO C t0)) (hu : h.get? u = some (kxs_mw "ValueError.__init__" e)) (hrest : rest.length ≤ sizeLine)
    (hq : ∀ h' t1, (∀ b o, b ≠ e → h.get? b = some o → h'.get? b = some o) → h'.get? e = some (excO C t1) → Q .none ⟨h', g, d, t, os⟩) :
    wpAny (model prog w) A (call (.ref u) rest) Q E ⟨h, g, d, t, os⟩ := by
  refine wpAny_call (codeAny_of_tree ?_)
  show wpAny _ A.in1 (callAny (.ref u) ⟨rest, []⟩) _ _ _
  simp only [callAny]
  refine wpAny_bind (wpAny_load hu ?_)
  simp only [kxs_mw, show (Value.type "method-wrapper" == Value.type "method" || Value.type "method-wrapper" == Value.type "builtin_function_or_method" || Value.type "method-wrapper" == Value.type "method-wrapper") = true by decide, if_true]
  refine KFB.if_so (by decide) ?_
  refine wpAny_bind (check_bound_init F.excBase_ValueError.toExcCallFacts hC he rfl ?_)
  refine wpAny_bind (wpAny_pure (wpAny_pure ?_))
  refine ⟨plainId_quiet F.excBase_ValueError.init.plain _, codeAny_builtin F.excBase_ValueError.initEntry ?_⟩
  rw [Around.under_plainId F.excBase_ValueError.init.plain _]
  wp_walk
  refine hq _ h.objs.size (fun b o hb ho => ?_) ?_
  · rw [Heap.get?_update_other _ _ (Ne.symm hb)]
    exact Heap.get?_push_of_some _ ho
  · rw [Heap.get?_update_self _ (Heap.get?_push_of_some _ he) rfl]
    rfl
theorem super_eq {q0 q1 q2 q3 q4 : Pos} {env : Env} (hpos : (q2.endLine == q4.line) = true) : eval (.Call (.Attribute (.Call (.Name "super" q0) [] [] q1) "__init__" q2) [.Name "rule" q3] [] q4) env = (do
      let ov ← attributeBase (.Call (.Name "super" q0) [] [] q1) "__init__" env (eval (.Call (.Name "super" q0) [] [] q1) env)
      standAt q2.atName
      let (f, first) ← holding [ov] (getMethod ov "__init__" (do return (← importBound (.Call (.Name "super" q0) [] [] q1) env).getD true))
      callWith q4 f first (backTo q4 (starEach [.Name "rule" q3] env)) []) := by
  have e : ∀ b : Bool, methodCallPos b (.Call (.Name "super" q0) [] [] q1) env q2 q4 = pure q4 := fun b => by
    unfold methodCallPos
    rw [if_pos]
    rw [hpos, Bool.or_true]
  show (do
      let ov ← attributeBase (.Call (.Name "super" q0) [] [] q1) "__init__" env (eval (.Call (.Name "super" q0) [] [] q1) env)
      standAt q2.atName
      methodCall (.Call (.Name "super" q0) [] [] q1) "__init__" q2 q4 env ov 1 (backTo q4 (starEach [.Name "rule" q3] env)) []) = _
  unfold methodCall
  simp only [e]
  rfl
theorem callWith_mw1 {M : Model} {pos : Pos} {env : Env} {e : Expr} {rest : List Expr} {u x : Addr} {i : String} {Q : Value → Shared → Prop}
    (h : wpAny M A (spliced (backTo pos (starEach (e :: rest) env))) (fun vs s₁ => KxsAt i u x s₁.heap ∧ wpAny M A (call (.ref u) vs) Q E s₁) E s)
    (he : starEach (e :: rest) env = (false, eval e env) :: starEach rest env := by rfl) (hplain : (backTo pos (starEach rest env)).any (·.1) = false := by rfl) :
    wpAny M A (callWith pos (.ref u) [] (backTo pos (starEach (e :: rest) env)) []) Q E s := by
  rw [he] at h ⊢
  refine kxs_callWith (i := i) (x := x) (by show (false || (backTo pos (starEach rest env)).any (·.1)) = false; rw [hplain]; rfl) ?_
  exact evalArgs_plain h
theorem ge_init (T : GeTxt prog K mg C fI) {x t0 : Addr} {v1 v2 : Value} (X : K.In s.heap) (hgl : s.heap.Ns mainGlobals mg) (hbl : s.heap.Ns builtinsNs mb) (hbs : mb "super" = some (.type "super")) (hlim : s.heap.NoLimit)
    (hx : s.heap.get? x = some (excO C t0)) (hnx : K.lookup x = none) (hroom : A.depth < recursionLimit)
    (hq : ∀ h' tk dx t1, InitEnd s.heap h' x C dx t1 v1 v2 → R (.ok (.ret .none)) { s with heap := h', toks := tk }) :
    codeAny (model prog w) A (.call (.ref fI) ⟨[.ref x, v1, v2], []⟩) R s := by
  obtain ⟨oc, od, doc, pm, an, cda, cc, ct, osl, p0, p1, p2, q0, q1, q2, q3, q4, q5, q6, q7, q8, q9, q10, q11, q12, q13, ccl, cdd, vs, ccs, file, tf, cl, cld, csl, ho, hcd, hcode, hvs, hfile, hcell, hpos⟩ := T.fn
  obtain ⟨nm, q, N, bs, bm, sn, sub, ab, col, dd, k0, k1, k2, k3, k5, hC, hbm⟩ := T.cls
  have hcl : clsIn K C = some { name := nm, bases := bs, mro := .ref C :: bm, ns := N, qualname := q, hasDict := true, slotNames := sn, subclasses := sub, abstract := ab, collection := col, hasDel := false } := by unfold clsIn; rw [hC] <;> rfl
  refine ks_codeAny_call_defAt (binds := [("self", .ref x), ("rule", v1), ("index", v2)]) hroom (X _ _ ho) rfl hlim (codeRec_of X hcd) rfl (BindsTo.of_eq (by first | rfl | with_unfolding_all rfl)) (show ∀ y ∈ gS.names, y.2 ≠ .cell by decide) (fun y hy => by simp only [List.mem_cons, List.not_mem_nil, or_false] at hy; rcases hy with rfl | rfl | rfl <;> rfl) (fun h₁ hn k => ?_)
  show _root_.PySem.wpAt (model prog w) (A.deeper (ksEnv "GraphError.__init__" gS s.heap.objs.size fI (.ref cda) cc)) (.func (gB q0 q1 q2 q3 q4 q5 q6 q7 q8 q9 q10 q11 q12 q13) (ksEnv "GraphError.__init__" gS s.heap.objs.size fI (.ref cda) cc)) (execs (gB q0 q1 q2 q3 q4 q5 q6 q7 q8 q9 q10 q11 q12 q13) (ksEnv "GraphError.__init__" gS s.heap.objs.size fI (.ref cda) cc)) _ _ _
  generalize hE : (fun e s' => wpAny (model prog w) (A.deeper (ksEnv "GraphError.__init__" gS s.heap.objs.size fI (.ref cda) cc)) (leaving (ksEnv "GraphError.__init__" gS s.heap.objs.size fI (.ref cda) cc) e) (fun _ s'' => R (.error e) s'') (fun e' s'' => R (.error e') s'') s') = EE
  have hxL : s.heap.objs.size ≠ x := Nat.ne_of_gt (Heap.lt_size hx)
  have X₁ : K.In h₁ := X.keeps k
  have hx₁ := k _ _ hx
  have I₁ : InstAt h₁ x (excO C t0) C none := ⟨hx₁, rfl, rfl, trivial⟩
  have hn0 : s.heap.objs.size ≠ x := hxL
  have hself : ∀ y : Str, (fun y : Str => ([("self", Value.ref x), ("rule", v1), ("index", v2)] : List (Str × Value)).reverse.lookup y) y = ([("self", Value.ref x), ("rule", v1), ("index", v2)] : List (Str × Value)).reverse.lookup y := fun _ => rfl
  -- super().__init__(rule)
  refine ks_wpAt_execs_cons ?_
  refine ks_wpAt_Expr_any ?_
  refine ks_wpAt_MethodCall ?_ (super_eq hpos)
  refine ks_wpAt_super_base (by first | rfl | with_unfolding_all rfl) (by first | rfl | with_unfolding_all rfl) (by decide) rfl (X₁ _ _ ho) rfl rfl rfl (X₁ _ _ hcode) rfl hvs hfile T.htop ?_
  refine ks_loadName_global rfl (by first | rfl | with_unfolding_all rfl) (loadGlobal_builtin (hgl.keeps k) T.supN (hbl.keeps k) hbs ⟨rfl, ?_⟩)
  refine wpAny_loadName_free rfl (by first | rfl | with_unfolding_all rfl) (by first | rfl | with_unfolding_all rfl) ⟨_, X₁ _ _ hcell, rfl⟩ ?_
  refine wpAny_loadName_local rfl (by first | rfl | with_unfolding_all rfl) hn (by first | rfl | with_unfolding_all rfl) ?_
  refine ks_wpAny_isType_cls (X₁ _ _ hC) rfl ⟨rfl, ?_⟩
  refine ks_wpAny_call_super (X₁ _ _ hC) rfl hx₁ rfl (fun c e => by cases e) (looks_mroIn X₁ T.mC) (fun h₂ e₂ k₂ => ?_)
  have X₂ : K.In h₂ := X₁.keeps k₂
  have I₂ : InstAt h₂ x (excO C t0) C none := ⟨k₂ _ _ hx₁, rfl, rfl, trivial⟩
  have hsup : alongIn K "__init__" (((.ref C :: bm : List Value).dropWhile (· != .ref C)).drop 1) = some (some (.builtin "ValueError.__init__")) := by
    have := T.sup
    unfold ks_superIn at this
    rw [hcl] at this
    exact this
  refine kxs_getMethod kxs_ValueError e₂ (looks_opaque X₂ T.tp) (l₀ := .ref C :: bm) (fun A Q E s k q => wpAny_bind ((looks_clsIn X₂ hcl) A _ E s k (wpAny_pure q))) rfl X₂ hsup (I₂.type.andThen (looks_subIn X₂ T.sVE)) (ks_ne X₂ I₂ hcl) (by decide) ?_
  have k23 : ∀ b o, h₂.get? b = some o → (h₂.push (kxs_mw "ValueError.__init__" x)).get? b = some o := fun b o e => Heap.get?_push_of_some _ e
  have k3 : ∀ b o, h₁.get? b = some o → (h₂.push (kxs_mw "ValueError.__init__" x)).get? b = some o := fun b o e => k23 b o (k₂ b o e)
  have hu : (h₂.push (kxs_mw "ValueError.__init__" x)).get? h₂.objs.size = some (kxs_mw "ValueError.__init__" x) := Heap.get?_push_at rfl rfl
  refine callWith_mw1 (x := x) (i := "ValueError.__init__") (spliced_more (ldC (v := v1) (hn.keeps k3) (by first | rfl | with_unfolding_all rfl) (spliced_none ⟨hu, ?_⟩)))
  refine call_mw (k3 _ _ (X₁ _ _ hC)) (k3 _ _ hx₁) hu (by rw [sizeLine_eq]; exact (by decide : 1 ≤ 16777216)) (fun h₄ t1 k₄ hx₄ => ?_)
  have k14 : ∀ b o, b ≠ x → h₁.get? b = some o → h₄.get? b = some o := fun b o n e => k₄ b o n (k3 b o e)
  have notC : ∀ {b : Addr} {o : Obj}, K.lookup b = some o → b ≠ x := fun {b o} e z => by
    rw [z, hnx] at e
    cases e
  have X₄ : K.In h₄ := fun b o e => k14 b o (notC e) (X₁ b o e)
  have hn₄ : h₄.Ns s.heap.objs.size fun y => ([("self", Value.ref x), ("rule", v1), ("index", v2)] : List (Str × Value)).reverse.lookup y := by
    obtain ⟨oL, es, ep, hL, r⟩ := hn
    exact ⟨oL, es, ep, k14 _ _ hxL hL, r⟩
  have lt4 : s.heap.objs.size < h₄.objs.size := hn₄.lt
  refine wpAt_of_wpAny (wpAny_execs_cons (plainObj_wpAny_Assign_Attribute ?_))
  refine ldC (v := v1) hn₄ (by first | rfl | with_unfolding_all rfl) (ldC (v := .ref x) hn₄ (by first | rfl | with_unfolding_all rfl) ?_)
  refine set_plain X₄ (ox := excO C t1) (od := none) ⟨hx₄, rfl, rfl, trivial⟩ T.sa ?_
  refine exc_osa X₄ hx₄ hcl (show refsVE (.ref C :: bm) = true from hbm) rfl T.noR (fun h₅ tk₅ dx k₅ dn dne hx₅ hns₅ => ?_)
  have X₅ : K.In h₅ := fun b o e => k₅ b o (notC e) (X₄ b o e)
  have hn₅ : h₅.Ns s.heap.objs.size fun y => ([("self", Value.ref x), ("rule", v1), ("index", v2)] : List (Str × Value)).reverse.lookup y := by
    obtain ⟨oL, es, ep, hL, r⟩ := hn₄
    exact ⟨oL, es, ep, k₅ _ _ hxL hL, r⟩
  refine wpAny_execs_cons (plainObj_wpAny_Assign_Attribute ?_)
  refine ldC (v := v2) hn₅ (by first | rfl | with_unfolding_all rfl) (ldC (v := .ref x) hn₅ (by first | rfl | with_unfolding_all rfl) ?_)
  have hw : _root_.PySem.Within (fun y => if y = PySem.Str.ofString "rule" then some v1 else none) [PySem.Str.ofString "rule"] := _root_.PySem.Within.cons _ v1 _root_.PySem.Within.nil
  obtain ⟨oD, esD, epD, hoD, hdD, _⟩ := hns₅.count hw
  refine set_plain X₅ (ox := { cls := .ref C, dict := some dx, data := .fields #[.ref t1, .none, .none, .none, .bool false, .none] }) (od := some oD) ⟨hx₅, rfl, rfl, hoD⟩ T.sa ?_
  refine PySem.OEX.osa_old X₅ hx₅ hns₅ hw (by decide) hcl (show refsVE (.ref C :: bm) = true from hbm) rfl T.noI (fun h₆ tk₆ k₆ hns₆ => ?_)
  have xdx : x ≠ dx := fun z => dne z.symm
  refine wpAny_execs_nil (hq h₆ tk₆ dx t1 ⟨fun b o hb e => ?_, k₆ _ _ xdx hx₅, ?_, dne, hns₆⟩)
  · have e1 := k₅ b o hb (k14 b o hb (k b o e))
    exact k₆ b o (Nat.ne_of_lt (Nat.lt_of_lt_of_le (Nat.lt_trans (Heap.lt_size e) lt4) dn)) e1
  · exact Nat.le_of_lt (Nat.lt_of_lt_of_le lt4 dn)
/-- a made GraphError -/
structure OwnMade (h h' : Heap) (e C d : Addr) (v1 v2 : Value) : Prop where
  keep : ∀ b o, h.get? b = some o → h'.get? b = some o
  new : h.objs.size ≤ e
  obj : ∃ oe vs, h'.get? e = some oe ∧ oe.cls = .ref C ∧ oe.dict = some d ∧ oe.data = .fields vs ∧ vs[1]? = some .none
  dbig : h.objs.size ≤ d
  dne : d ≠ e
  ns : h'.Ns1 d (fun y => if y = "index" then some v2 else if y = "rule" then some v1 else none)
theorem two_size (v1 v2 : Value) : [v1, v2].length ≤ sizeLine := by
  rw [sizeLine_eq]
  exact (by decide : 2 ≤ 16777216)
theorem ge_made (T : GeTxt prog K mg C fI) {v1 v2 : Value} (X : K.In s.heap) (hgl : s.heap.Ns mainGlobals mg) (hbl : s.heap.Ns builtinsNs mb) (hbs : mb "super" = some (.type "super")) (hlim : s.heap.NoLimit) (hroom : A.depth + 1 < recursionLimit)
    (hq : ∀ h' tk e d, OwnMade s.heap h' e C d v1 v2 → R (.ok (.ret (.ref e))) { s with heap := h', toks := tk }) :
    codeAny (model prog w) A (.call (.ref C) ⟨[v1, v2], []⟩) R s := by
  obtain ⟨nm, q, N, bs, bm, sn, sub, ab, col, dd, k0, k1, k2, k3, k5, hC, hbm⟩ := T.cls
  obtain ⟨hp, g, dr, tk, os⟩ := s
  have k : ∀ b o, hp.get? b = some o → ((hp.push (kdv_tup [v1, v2])).push (excO C hp.objs.size)).get? b = some o := fun b o e => Heap.get?_push_of_some _ (Heap.get?_push_of_some _ e)
  have hget : ((hp.push (kdv_tup [v1, v2])).push (excO C hp.objs.size)).get? (hp.objs.size + 1) = some (excO C hp.objs.size) := by heap_get
  have hnx : K.lookup (hp.objs.size + 1) = none := by
    cases e : K.lookup (hp.objs.size + 1) with
    | none => rfl
    | some o =>
      have z : hp.get? (hp.objs.size + 1) = some o := X _ _ e
      exact absurd (Nat.lt_of_succ_lt (Heap.lt_size z)) (Nat.lt_irrefl _)
  refine HandSPX.call_own F.excBase_ValueError (fun X => refsVE_contains X bm hbm) (X _ _ hC) (looks_findIn X T.iC) (fun self => bind_fn X self T.tC) (two_size v1 v2) ?_
  refine ge_init (s := ⟨(hp.push (kdv_tup [v1, v2])).push (excO C hp.objs.size), g, dr, tk, os⟩) T (X.keeps k) (hgl.keeps k) (hbl.keeps k) hbs (hlim.keeps k) hget hnx ?_ fun h' tk' dx t1 ⟨k', hx, dn, dne, hns⟩ => ?_
  · show A.depth + 1 < recursionLimit
    exact hroom
  · have old : ∀ b o, hp.get? b = some o → h'.get? b = some o := fun b o e => k' b o (Nat.ne_of_lt (Nat.lt_succ_of_lt (Heap.lt_size e))) (k b o e)
    have z : hp.objs.size + 1 + 1 ≤ dx := by
      first
        | (simpa only [Heap.size_push] using dn)
        | exact dn
        | (have q := dn; rw [Heap.size_push, Heap.size_push] at q; exact q)
    exact ⟨rfl, hq h' tk' (hp.objs.size + 1) dx ⟨old, Nat.le_succ _, ⟨_, _, hx, rfl, rfl, rfl, rfl⟩, Nat.le_trans (Nat.le_trans (Nat.le_succ _) (Nat.le_succ _)) z, dne, hns⟩⟩
end
end GEX
end PySem

end
section
set_option Elab.async false
set_option linter.all false
set_option maxRecDepth 100000
set_option maxHeartbeats 16000000
/-! Gex, part B: raise GraphError(rule, index); its fields in an except suite. -/
namespace GexB
open PySem PySem.Spec PyProof.Rows L2
def geFs (r i : V) : List (Str × V) := [("index", i), ("rule", r)]
theorem relO_ge {r i : V} {r' i' : Value} (h1 : RelV r r') (h2 : RelV i i') (f : Str) : RelO (List.lookup f (geFs r i)) (if f = "index" then some i' else if f = "rule" then some r' else none) := by
  by_cases hw : f = "index"
  · subst hw
    rw [if_pos rfl]
    have q : List.lookup ("index" : Str) (geFs r i) = some i := by simp [geFs, List.lookup]
    rw [q]
    exact h2
  · rw [if_neg hw]
    have qw : (f == ("index" : Str)) = false := by simpa using hw
    by_cases hw2 : f = "rule"
    · subst hw2
      rw [if_pos rfl]
      have q : List.lookup ("rule" : Str) (geFs r i) = some r := by simp [geFs, List.lookup, qw]
      rw [q]
      exact h1
    · rw [if_neg hw2]
      have qw2 : (f == ("rule" : Str)) = false := by simpa using hw2
      have q2 : List.lookup f (geFs r i) = none := by simp [geFs, List.lookup, qw, qw2]
      rw [q2]
      trivial
section
variable {X : Cx} {C fI : Addr}
/-- GraphError(a, b) -/
def tMkGe (C : Addr) (ta : TA) : L2.St → Hp → XK → Prop := fun σ H Q => ta σ H fun vs H1 => ∃ v1 v2, vs = [v1, v2] ∧ ∀ d, H1 d = none → Q (.ref C) (some d) (upd H1 d (.xd (geFs v1 v2)))
theorem pmk_ge {a b : Expr} {ta : TA} {p pos : Pos} {k : Nat} (T : PySem.GEX.GeTxt X.prog X.K X.mg C fI) (hr : Room k X.A) (ha : PA X [a, b] ta) (hg : Gl X "GraphError" := by rfl)
    (he : starEach (a :: [b]) X.env = (false, eval a X.env) :: starEach [b] X.env := by rfl) (hpl : (backTo pos (starEach [b] X.env)).any (·.1) = false := by rfl) :
    PMk X (.Call (.Name "GraphError" p) [a, b] [] pos) (tMkGe C ta) := by
  intro pins s σ H Q I h
  refine wpAny_Call_Name_kw (ld_glob I hg T.gC ?_)
  refine PySem.W.callWith_K (h₀ := X.base) I.ok.mod.kin T.kC (thn (ha.run pos pins s σ H _ I h) fun us s1 hh => ?_) he hpl
  obtain ⟨vs, H1, I1, r1, v1, v2, ev, q1⟩ := hh
  subst ev
  refine ⟨I1.kIn, ?_⟩
  cases r1 with
  | cons rv rn =>
    rename_i v1' us'
    cases rn with
    | cons rw' rn =>
    rename_i v2' us''
    cases rn
    show wpAny _ _ (call (.ref C) [v1', v2']) _ _ _
    have hlim := I1.nolimit
    obtain ⟨mb, hb1, hb2⟩ := I1.mod.blt
    have hgl := I1.mod.glob.keeps I1.bk
    have hbl := hb1.keeps I1.bk
    obtain ⟨hp, g, dr, tk, os⟩ := s1
    refine wpAny_call (PySem.GEX.ge_made T I1.kIn hgl hbl ((hb2 _ (by decide)).trans PyProof.Rows.Boot.«super») hlim (by have := hr.dp; omega) fun h' tk' e d M => ?_)
    show MkP X pins σ Q (.ref e) ⟨h', g, dr, tk', os⟩
    obtain ⟨oe, fv, hoe, hc, hd, hdat, h1⟩ := M.obj
    have hns := M.ns
    obtain ⟨G', g1, g2⟩ := restrict h' fun b => decide (b ≠ e)
    have gk : ∀ b, b ≠ e → G'.get? b = h'.get? b := fun b hb => g1 b (decide_eq_true hb)
    have ge : G'.get? e = none := g2 e (by simp)
    have old : ∀ b o, hp.get? b = some o → G'.get? b = some o := fun b o q => (gk b (Nat.ne_of_lt (Nat.lt_of_lt_of_le (Heap.lt_size q) M.new))).trans (M.keep b o q)
    have ob : ObjOk X.prog X.w (upd H1 d (.xd (geFs v1 v2))) G' d (.xd (geFs v1 v2)) :=
      ⟨_, hns.at (fun o q => (gk d M.dne).trans q), fun f => relO_ge rv rw' f⟩
    have J : Inv X pins σ (upd H1 d (.xd (geFs v1 v2))) ⟨G', g, dr, tk', os⟩ := I1.laid (t' := tk') old M.dbig ob
    refine ⟨e, oe, fv, ⟨G', g, dr, tk', os⟩, _, .ref C, some d, rfl, J, fun b o q => ?_, ge, hoe, ⟨hc, hd⟩, hdat, h1, ?_, rfl, I1.bare, raises_own T.exC T.tyC, q1 d (I1.hok.fresh M.dbig)⟩
    · by_cases hb : b = e
      · have q' : G'.get? b = some o := q
        rw [hb, ge] at q'; cases q'
      · exact (gk b hb).symm.trans q
    · rw [upd_ne (Ne.symm M.dne)]
      exact I1.hok.fresh M.new
/-- raise GraphError(a, b) -/
def tRaiseGe (C : Addr) (W : WX) (ta : TA) : TS := fun _ σ H => tMkGe C ta σ H fun cls d H' => W cls d σ H'
theorem ps_raiseGe {a b : Expr} {ta : TA} {W : WX} {p pos pos2 : Pos} {k : Nat} (hc : X.calm = true) (T : PySem.GEX.GeTxt X.prog X.K X.mg C fI) (hr : Room k X.A) (tk : Takes X W) (ha : PA X [a, b] ta) (hg : Gl X "GraphError" := by rfl)
    (he : starEach (a :: [b]) X.env = (false, eval a X.env) :: starEach [b] X.env := by rfl) (hpl : (backTo pos (starEach [b] X.env)).any (·.1) = false := by rfl) :
    PS X (.Raise (some (.Call (.Name "GraphError" p) [a, b] [] pos)) none pos2) (tRaiseGe C W ta) := ps_raise hc tk (pmk_ge T hr ha hg he hpl)
/-- e.f, e the exception that the suite holds (at a; its class cls, its dict d), f a field of its own -/
def tFld (C : Addr) (f : Str) (a : Addr) (cls : Value) (d : Option Addr) (te : TE) : TE := fun σ H Q => te σ H fun x H1 => x = .ref a ∧ cls = .ref C ∧ ∃ (dd : Addr) (r i v : V), d = some dd ∧ H1 dd = some (.xd (geFs r i)) ∧ List.lookup f (geFs r i) = some v ∧ Q v H1
theorem pe_fld {f : Str} {a : Addr} {oe : Obj} {cls : Value} {d : Option Addr} {pn : List (Addr × Obj)} {e : Expr} {te : TE} {pos : Pos} (T : PySem.GEX.GeTxt X.prog X.K X.mg C fI) (hno : PySem.W.findIn X.K (.ref C) f = some none) (hz : Zc cls d oe) (hf : ∃ vs, oe.data = .fields vs) (he : PE (X.suite a ((a, oe) :: pn)) e te)
    (hb : attributeBase e f X.env (eval e X.env) = eval e X.env := by rfl) (hfd : (f == ("__class__" : Str)) = false := by decide) :
    PE (X.suite a ((a, oe) :: pn)) (.Attribute e f pos) (tFld C f a cls d te) := by
  refine ⟨fun pins s σ H Q I h => ?_⟩
  refine attr_of hb (thn (he.run pins s σ H _ I h) fun u s1 hh => ?_)
  obtain ⟨x, H1, I1, rx, ex, ec, dd, r, i, v, ed, ea, el, q⟩ := hh
  subst ex
  obtain rfl : u = Value.ref a := rx
  subst ec
  subst ed
  obtain ⟨ha, _⟩ := I1.pin (a, oe) (List.mem_append_left _ List.mem_cons_self)
  obtain ⟨vs, hd⟩ := hf
  have hx : ObjOk X.prog X.w H1 s1.heap dd (.xd (geFs r i)) := I1.hok dd _ ea
  obtain ⟨mA, hns, hr⟩ := hx
  obtain ⟨od, ho, hl⟩ := lookIn_ns hns
  obtain ⟨u, hu, ru⟩ := RelO.some_of (v := v) (o := mA f) (by rw [← el]; exact hr f)
  have J : PySem.W.InstAt s1.heap a oe C (some od) := ⟨ha, hz.1, by unfold PySem.W.notCls; rw [hd] <;> rfl, by rw [hz.2]; exact ho⟩
  exact HandSPX.exc_get I1.kIn J T.ga T.gg T.exC (PySem.W.findObj_own T.hdC hno rfl (by rw [hl, hu])) (handed_of ru) ⟨v, H1, I1.tok _, ru, q⟩
end
end GexB

end
section
set_option Elab.async false
set_option linter.all false
set_option maxRecDepth 100000
set_option maxHeartbeats 16000000
/-! Gex, part C: the evaluator's exceptions. -/
namespace GexB
open PySem PySem.Spec PyProof.Rows L2 Eng
def xaGe (C : Addr) : Eng.Exn → Value → Option Addr → Hp → Prop := fun e cls dx H => cls = .ref C ∧ ∃ r i d, e = (0, [.str r, .int i]) ∧ dx = some d ∧ H d = some (.xd (geFs (.str r) (.int i)))
def requireS : List PyData → Sta → R PyData
  | [.bool true, _, _], st => .ok .none st
  | [.bool false, .str r, .int i], st => .exc (0, [.str r, .int i]) st
  | _, _ => .bad
theorem require_cases (ds : List PyData) (st : Sta) : requireS ds st = .bad ∨ (∃ x y, ds = [.bool true, x, y] ∧ requireS ds st = .ok .none st) ∨ ∃ r i, ds = [.bool false, .str r, .int i] ∧ requireS ds st = .exc (0, [.str r, .int i]) st := by
  unfold requireS
  split
  · exact .inr (.inl ⟨_, _, rfl, rfl⟩)
  · exact .inr (.inr ⟨_, _, rfl, rfl⟩)
  · exact .inl rfl
section
variable {K : PySem.W.Frag} {sa : SA} {F H : Hp} {st : Sta}
theorem sta_upd {d : Addr} {u : HO} (h : StaOk sa st F H) (nd : H d = none) : StaOk sa st F (upd H d u) :=
  h.keep (fun _ _ => rfl) fun b e => upd_ne fun z => by
    subst z
    obtain ⟨_, o, q⟩ := h.at e
    rw [nd] at q; cases q
/-- a new thing beside all that was -/
theorem cstp_upd {d : Addr} {u : HO} (hF : Eng.Sub F H) (h : StaOk sa st F H) (nd : H d = none) : CStp sa F H F (upd H d u) st :=
  ⟨fun b v e => by
    have n : b ≠ d := fun z => by subst z; rw [hF _ _ e] at nd; cases nd
    rw [upd_ne n]; exact hF _ _ e, Eng.Sub.refl, fun b v _ e => by
    have n : b ≠ d := fun z => by subst z; rw [nd] at e; cases e
    rw [upd_ne n]; exact e, fun b z => .inl z, sta_upd h nd⟩
theorem cstp_refl (hF : Eng.Sub F H) (h : StaOk sa st F H) : CStp sa F H F H st := ⟨hF, Eng.Sub.refl, fun _ _ _ e => e, fun b z => .inl z, h⟩
theorem cstp_tup {F' H' : Hp} {st' : Sta} {p : Addr} {xs : List V} (cs : CStp sa F H F' H' st') (np : H' p = none) : CStp sa F H (upd F' p (.tup xs)) (upd H' p (.tup xs)) st' := by
  have nF : F' p = none := by
    cases z : F' p with
    | none => rfl
    | some u => rw [cs.sub' _ _ z] at np; cases np
  refine ⟨fun b u e => ?_, fun b u e => ?_, fun b u nb e => ?_, fun b z => ?_, ?_⟩
  · by_cases h : b = p
    · subst h; rw [upd_same] at e ⊢; exact e
    · rw [upd_ne h] at e ⊢; exact cs.sub' _ _ e
  · have e1 := cs.sub _ _ e
    have h : b ≠ p := fun z => by subst z; rw [nF] at e1; cases e1
    rw [upd_ne h]; exact e1
  · have e1 := cs.keep _ _ nb e
    have h : b ≠ p := fun z => by subst z; rw [np] at e1; cases e1
    rw [upd_ne h]; exact e1
  · by_cases h : b = p
    · subst h; exact .inr (.inr ⟨_, upd_same, rfl⟩)
    · rw [upd_ne h] at z ⊢; exact cs.new b z
  · have ne : ∀ b, exA sa b → b ≠ p := fun b e z => by
      subst z
      obtain ⟨_, o, q⟩ := cs.sta.at e
      rw [np] at q; cases q
    exact cs.sta.keep (fun b e => upd_ne (ne b e)) fun b e => upd_ne (ne b e)
theorem rp_bool {v : V} {b : Bool} (h : Rp K sa F v (.bool b)) : v = .bl b := by cases h; rfl
theorem rp_str {v : V} {b : Str} (h : Rp K sa F v (.str b)) : v = .str b := by cases h; rfl
theorem rp_int {v : V} {b : Int} (h : Rp K sa F v (.int b)) : v = .int b := by cases h; rfl
end
end GexB

end
section
set_option Elab.async false
set_option linter.all false
set_option maxRecDepth 100000
set_option maxHeartbeats 16000000
/-! Gex, part D: the facts of GraphError, from what k_is shows. -/
namespace GexB
open PySem PySem.Spec PyProof.Rows L2
/-- what «except C» asks of an error of the class at C -/
theorem exm_own {K : PySem.W.Frag} {S : Addr} (h1 : PySem.W.subIn K (.ref S) (.type "BaseException") = some true) (h2 : PySem.W.isClsIn K S = true) (h3 : PySem.W.typeIn K (.ref S) = some (.type "type")) (h4 : PySem.W.subIn K (.ref S) (.ref S) = some true) :
    PySem.W.exmOne K (.ref S) (.ref S) = some true := by
  have a : (PySem.W.subIn K (.ref S) (.type "BaseException") == some true) = true := by rw [h1]; rfl
  have h2' : (PySem.W.clsIn K S).isSome = true := h2
  have b : ((PySem.W.clsIn K S).isSome && PySem.W.typeIn K (.ref S) == some (.type "type")) = true := by rw [h2', h3]; rfl
  refine Eq.trans ?_ h4
  exact (if_pos a).trans (if_pos b)
end GexB

end
section
set_option Elab.async false
set_option linter.all false
set_option maxRecDepth 100000
set_option maxHeartbeats 16000000
set_option autoImplicit false
/-! Eng, part N: the evaluator by its steps; plain data that are laid (Emb); lists of ints. -/
namespace Eng
open PySem PySem.Spec PyProof.Rows L2

/-! ### steps -/
section
variable {cl : Calls} {gl : List D} {tab : List Ent} {ρ ρ' ρ1 : Eng.Env} {st st1 st2 st3 : Sta} {ss sa sb : Ss} {i j : Nat} {e a b c : E} {d d1 d2 : D} {r : R Fl} {o : Bool}
theorem r_ret {k f : Nat} {fd : FD} {ds : List D} (h : tab[f]? = some (.df fd)) (hl : ds.length = fd.ps.length) (h2 : execs (run gl tab k) gl fd.body (start0 fd ds) st = .ok (.ret d) st1) : run gl tab (k + 1) f ds st = .ok d st1 := by
  simp only [run, h, hl, if_true, h2, endOf]
theorem r_pr {k f n : Nat} {x : Str} {sem : List D → Sta → R D} {ds : List D} (h : tab[f]? = some (.pr x n sem)) (hl : ds.length = n) : run gl tab (k + 1) f ds st = sem ds st := by
  simp only [run, h, hl, if_true]
theorem x_set (h1 : ev cl gl ρ false e st = .ok d st1) (hi : i < ρ.length) (h2 : execs cl gl ss (ρ.set i (.val d)) st1 = r) : execs cl gl (.cons (.set i e) ss) ρ st = r := by
  simp only [execs, exec, h1, R.bind_ok, setV, hi, if_true, h2]
theorem x_setO {ds : List D} (h1 : ev cl gl ρ false e st = .ok (.list ds) st1) (hi : i < ρ.length) (h2 : execs cl gl ss (ρ.set i (.lst ds)) st1 = r) : execs cl gl (.cons (.setO i e) ss) ρ st = r := by
  simp only [execs, exec, h1, R.bind_ok, setV, hi, if_true, h2]
theorem x_newD (hi : i < ρ.length) (h2 : execs cl gl ss (ρ.set i (.dic [])) st = r) : execs cl gl (.cons (.newD i) ss) ρ st = r := by
  simp only [execs, exec, R.bind_ok, setV, hi, if_true, h2]
theorem x_asg {tg : Tg} (h1 : ev cl gl ρ false e st = .ok d st1) (hb : bindTg tg d ρ = some ρ1) (h2 : execs cl gl ss ρ1 st1 = r) : execs cl gl (.cons (.asg tg e) ss) ρ st = r := by
  simp only [execs, exec, h1, R.bind_ok, hb, h2]
theorem x_app {ds : List D} (hρ : ρ[i]? = some (.lst ds)) (h1 : ev cl gl ρ false e st = .ok d st1) (hl : ds.length < sizeLine) (h2 : execs cl gl ss (ρ.set i (.lst (ds ++ [d]))) st1 = r) : execs cl gl (.cons (.app i e) ss) ρ st = r := by
  simp only [execs, exec, hρ, h1, R.bind_ok, hl, if_true, h2]
theorem x_ret (h1 : ev cl gl ρ false e st = .ok d st1) : execs cl gl (.cons (.ret e) ss) ρ st = .ok (.ret d) st1 := by
  simp only [execs, exec, h1, R.bind_ok]
theorem x_frzL {ds : List D} (hρ : ρ[i]? = some (.lst ds)) (h2 : execs cl gl ss (ρ.set i (.val (.list ds))) st = r) : execs cl gl (.cons (.frz i) ss) ρ st = r := by
  simp only [execs, exec, hρ, R.bind_ok, h2]
theorem x_nil : execs cl gl .nil ρ st = .ok (.nx ρ) st := by simp only [execs]
/-- an if whose branch goes on -/
theorem x_ite {k : Bool} (h1 : ev cl gl ρ false c st = .ok (.bool k) st1) (h2 : (if k then execs cl gl sa ρ st1 else execs cl gl sb ρ st1) = .ok (.nx ρ1) st2) (h3 : execs cl gl ss ρ1 st2 = r) : execs cl gl (.cons (.ite c sa sb) ss) ρ st = r := by
  simp only [execs, exec, tst, h1, R.bind_ok, h2, h3]
theorem x_iteT (h1 : ev cl gl ρ false c st = .ok (.bool true) st1) (h2 : execs cl gl sa ρ st1 = .ok (.nx ρ1) st2) (h3 : execs cl gl ss ρ1 st2 = r) : execs cl gl (.cons (.ite c sa sb) ss) ρ st = r := x_ite h1 (by simpa using h2) h3
theorem x_iteF (h1 : ev cl gl ρ false c st = .ok (.bool false) st1) (h2 : execs cl gl sb ρ st1 = .ok (.nx ρ1) st2) (h3 : execs cl gl ss ρ1 st2 = r) : execs cl gl (.cons (.ite c sa sb) ss) ρ st = r := x_ite h1 (by simpa using h2) h3
/-- no branch is taken -/
theorem x_skip (h1 : ev cl gl ρ false c st = .ok (.bool false) st1) (h3 : execs cl gl ss ρ st1 = r) : execs cl gl (.cons (.ite c sa .nil) ss) ρ st = r := x_iteF h1 x_nil h3
theorem x_iteR (h1 : ev cl gl ρ false c st = .ok (.bool true) st1) (h2 : execs cl gl sa ρ st1 = .ok (.ret d) st2) : execs cl gl (.cons (.ite c sa sb) ss) ρ st = .ok (.ret d) st2 := by
  simp only [execs, exec, tst, h1, R.bind_ok, if_true, h2]
theorem x_for {tg : Tg} {it : It} {xs : List D} {sb : Ss} (h1 : evIt cl gl ρ false it st = .ok xs st1) (h2 : forRun tg (execs cl gl sb) xs ρ st1 = .ok (.nx ρ1) st2) (h3 : execs cl gl ss ρ1 st2 = r) : execs cl gl (.cons (.for tg it sb) ss) ρ st = r := by
  simp only [execs, exec, h1, R.bind_ok, h2, h3]
theorem x_whl {n : Nat} (h2 : whlRun (tst cl gl c) (execs cl gl sa) wf ρ st = .ok (.nx ρ1) st2) (h3 : execs cl gl ss ρ1 st2 = r) : execs cl gl (.cons (.whl c sa) ss) ρ st = r := by
  simp only [execs, exec, R.bind_ok, h2, h3]
/-- a loop with what stays true -/
theorem for_inv {tg : Tg} {body : Eng.Env → Sta → R Fl} {xs : List D} (I : Nat → Eng.Env → Sta → Prop) (h0 : I 0 ρ st)
    (step : ∀ (i : Nat) (x : D) (ρ : Eng.Env) (st : Sta), xs[i]? = some x → I i ρ st → ∃ ρ1, bindTg tg x ρ = some ρ1 ∧ ∃ ρ' st', (body ρ1 st = .ok (.nx ρ') st' ∨ body ρ1 st = .ok (.ct ρ') st') ∧ I (i + 1) ρ' st') :
    ∃ ρ' st', forRun tg body xs ρ st = .ok (.nx ρ') st' ∧ I xs.length ρ' st' := by
  induction xs generalizing ρ st I with
  | nil => exact ⟨ρ, st, rfl, h0⟩
  | cons x xs ih =>
    obtain ⟨ρ1, hb, ρ', st', hx, hi⟩ := step 0 x ρ st rfl h0
    obtain ⟨ρ2, st2, h1, h2⟩ := ih (fun i => I (i + 1)) hi fun i y ρ st hy h => step (i + 1) y ρ st hy h
    refine ⟨ρ2, st2, ?_, h2⟩
    simp only [forRun, hb]
    rcases hx with hx | hx
    · rw [hx]; exact h1
    · rw [hx]; exact h1
/-- a loop over mapped things, each turn known -/
theorem for_map {α : Type} {tg : Tg} {body : Eng.Env → Sta → R Fl} {φ : α → D} {xs : List α} (I : List α → List α → Eng.Env → Sta → Prop) (h0 : I [] xs ρ st)
    (step : ∀ (ys : List α) (x : α) (zs : List α) (ρ : Eng.Env) (st : Sta), xs = ys ++ x :: zs → I ys (x :: zs) ρ st → ∃ ρ1, bindTg tg (φ x) ρ = some ρ1 ∧ ∃ ρ' st', (body ρ1 st = .ok (.nx ρ') st' ∨ body ρ1 st = .ok (.ct ρ') st') ∧ I (ys ++ [x]) zs ρ' st') :
    ∃ ρ' st', forRun tg body (xs.map φ) ρ st = .ok (.nx ρ') st' ∧ I xs [] ρ' st' := by
  have key : ∀ (zs ys : List α) (ρ : Eng.Env) (st : Sta), xs = ys ++ zs → I ys zs ρ st → ∃ ρ' st', forRun tg body (zs.map φ) ρ st = .ok (.nx ρ') st' ∧ I xs [] ρ' st' := by
    intro zs
    induction zs with
    | nil => exact fun ys ρ st e h => ⟨ρ, st, rfl, by rw [e, List.append_nil]; exact h⟩
    | cons z zs ih =>
      intro ys ρ st e h
      obtain ⟨ρ1, hb, ρ', st', hx, hi⟩ := step ys z zs ρ st e h
      obtain ⟨ρ2, st2, h1, h2⟩ := ih (ys ++ [z]) ρ' st' (by rw [e]; simp) hi
      refine ⟨ρ2, st2, ?_, h2⟩
      simp only [List.map_cons, forRun, hb]
      rcases hx with hx | hx
      · rw [hx]; exact h1
      · rw [hx]; exact h1
  exact key xs [] ρ st rfl h0

/-! ### comprehensions -/
theorem compRun_map {α : Type} {turn : D → Sta → R (Option D)} {φ : α → D} {p : α → Bool} {g : α → D} : ∀ (xs : List α) (acc : List D), (∀ x ∈ xs, turn (φ x) st = .ok (if p x then some (g x) else none) st) → acc.length + xs.length ≤ sizeLine →
    compRun turn (xs.map φ) acc st = .ok (acc ++ (xs.filter p).map g) st
  | [], acc, _, _ => by simp [compRun]
  | x :: xs, acc, h, hl => by
    have h1 := h x (List.mem_cons_self ..)
    rw [List.length_cons] at hl
    cases hp : p x with
    | true =>
      have ih := compRun_map (turn := turn) xs (acc ++ [g x]) (fun y hy => h y (List.mem_cons_of_mem _ hy)) (by rw [List.length_append]; simp only [List.length_cons, List.length_nil]; omega)
      simp only [hp, if_true] at h1
      simp only [List.map_cons, compRun, h1, R.bind_ok, List.filter_cons, hp, if_true]
      rw [if_pos (by omega), ih]
      simp
    | false =>
      have ih := compRun_map (turn := turn) xs acc (fun y hy => h y (List.mem_cons_of_mem _ hy)) (by omega)
      simp only [hp] at h1
      simp only [List.map_cons, compRun, h1, R.bind_ok, List.filter_cons, hp]
      simpa using ih
theorem e_comp {α : Type} {own : List (Str × Nat)} {tg : Tg} {it : It} {co : OE} {φ : α → D} {xs : List α} (p : α → Bool) (g : α → D) (hit : evIt cl gl ρ true it st = .ok (xs.map φ) st1)
    (h : ∀ x ∈ xs, ∃ ρ', bindTg tg (φ x) (wipeE ρ (own.map (·.2))) = some ρ' ∧ evIf cl gl ρ' co st1 = .ok (p x) st1 ∧ (p x = true → ev cl gl ρ' false e st1 = .ok (g x) st1)) (hl : xs.length ≤ sizeLine) :
    ev cl gl ρ o (.comp own tg it co e) st = .ok (.list ((xs.filter p).map g)) st1 := by
  simp only [ev, hit, R.bind_ok]
  rw [compRun_map (p := p) (g := g) xs [] (fun x hx => ?_) (by simpa using hl)]
  · rfl
  · obtain ⟨ρ', h1, h2, h3⟩ := h x hx
    simp only [h1, h2, R.bind_ok]
    cases hp : p x with
    | true => simp only [if_true, h3 hp, R.bind_ok]
    | false => rfl
/-- draws in the test -/
theorem compRun_draw {α : Type} {turn : D → Sta → R (Option D)} {φ : α → D} {g : α → D} {Good : Sta → Prop} : ∀ (xs : List α) (acc : List D) (st : Sta), Good st → (∀ x ∈ xs, ∀ st, Good st → ∃ b st', Good st' ∧ turn (φ x) st = .ok (if b = true then some (g x) else none) st') → acc.length + xs.length ≤ sizeLine →
    ∃ ys st', List.Sublist ys xs ∧ Good st' ∧ compRun turn (xs.map φ) acc st = .ok (acc ++ ys.map g) st'
  | [], acc, st, hg, _, _ => ⟨[], st, List.Sublist.refl _, hg, by simp [compRun]⟩
  | x :: xs, acc, st, hg, h, hl => by
    obtain ⟨b, st', g1, h1⟩ := h x (List.mem_cons_self ..) st hg
    rw [List.length_cons] at hl
    cases hb : b with
    | true =>
      obtain ⟨ys, st2, s2, g2, h2⟩ := compRun_draw (turn := turn) xs (acc ++ [g x]) st' g1 (fun y hy => h y (List.mem_cons_of_mem _ hy)) (by rw [List.length_append]; simp only [List.length_cons, List.length_nil]; omega)
      refine ⟨x :: ys, st2, s2.cons_cons x, g2, ?_⟩
      simp only [hb, if_true] at h1
      simp only [List.map_cons, compRun, h1, R.bind_ok]
      rw [if_pos (by omega), h2]
      simp
    | false =>
      obtain ⟨ys, st2, s2, g2, h2⟩ := compRun_draw (turn := turn) xs acc st' g1 (fun y hy => h y (List.mem_cons_of_mem _ hy)) (by omega)
      refine ⟨ys, st2, s2.cons x, g2, ?_⟩
      simp only [hb] at h1
      simp only [List.map_cons, compRun, h1, R.bind_ok]
      simpa using h2
theorem e_compD {α : Type} {own : List (Str × Nat)} {tg : Tg} {it : It} {co : OE} {φ : α → D} {xs : List α} (Good : Sta → Prop) (g : α → D) (hit : evIt cl gl ρ true it st = .ok (xs.map φ) st1) (hg : Good st1)
    (h : ∀ x ∈ xs, ∀ st, Good st → ∃ ρ', bindTg tg (φ x) (wipeE ρ (own.map (·.2))) = some ρ' ∧ ∃ b st', Good st' ∧ evIf cl gl ρ' co st = .ok b st' ∧ (b = true → ev cl gl ρ' false e st' = .ok (g x) st')) (hl : xs.length ≤ sizeLine) :
    ∃ ys st', List.Sublist ys xs ∧ Good st' ∧ ∀ o, ev cl gl ρ o (.comp own tg it co e) st = .ok (.list (ys.map g)) st' := by
  have k := compRun_draw (turn := fun x st => match bindTg tg x (wipeE ρ (own.map (·.2))) with
      | some ρ' => (evIf cl gl ρ' co st).bind fun b st => if b then (ev cl gl ρ' false e st).bind fun d st => .ok (some d) st else .ok none st
      | none => .bad) (φ := φ) (g := g) (Good := Good) xs [] st1 hg (fun x hx st hs => by
    obtain ⟨ρ', h1, b, st', h2, h3, h4⟩ := h x hx st hs
    refine ⟨b, st', h2, ?_⟩
    simp only [h1, h3, R.bind_ok]
    cases hb : b with
    | true => simp only [if_true, h4 hb, R.bind_ok]
    | false => rfl) (by simpa using hl)
  obtain ⟨ys, st', k1, k2, k3⟩ := k
  refine ⟨ys, st', k1, k2, fun o => ?_⟩
  simp only [ev, hit, R.bind_ok]
  exact (congrArg (fun z : R (List D) => noExc (z.bind fun ds st => R.ok (PyData.list ds) st)) k3)
/-- a turn's value may be drawn, too -/
theorem compRun_all {α : Type} {turn : D → Sta → R (Option D)} {φ : α → D} {Good : Sta → Prop} {W : α → D → Prop} : ∀ (xs : List α) (acc : List D) (st : Sta), Good st → (∀ x ∈ xs, ∀ st, Good st → ∃ d st', Good st' ∧ W x d ∧ turn (φ x) st = .ok (some d) st') → acc.length + xs.length ≤ sizeLine →
    ∃ ys st', ys.length = xs.length ∧ (∀ p ∈ xs.zip ys, W p.1 p.2) ∧ Good st' ∧ compRun turn (xs.map φ) acc st = .ok (acc ++ ys) st'
  | [], acc, st, hg, _, _ => ⟨[], st, rfl, by simp, hg, by simp [compRun]⟩
  | x :: xs, acc, st, hg, h, hl => by
    obtain ⟨d, st', g1, w1, h1⟩ := h x (List.mem_cons_self ..) st hg
    rw [List.length_cons] at hl
    obtain ⟨ys, st2, l2, w2, g2, h2⟩ := compRun_all (turn := turn) (W := W) xs (acc ++ [d]) st' g1 (fun y hy => h y (List.mem_cons_of_mem _ hy)) (by rw [List.length_append]; simp only [List.length_cons, List.length_nil]; omega)
    refine ⟨d :: ys, st2, by simp [l2], ?_, g2, ?_⟩
    · intro p hp
      rw [List.zip_cons_cons] at hp
      rcases List.mem_cons.mp hp with hp | hp
      · subst hp; exact w1
      · exact w2 p hp
    · simp only [List.map_cons, compRun, h1, R.bind_ok]
      rw [if_pos (by omega), h2]
      simp
theorem e_call {f : Nat} {es : Es} {ds : List D} {w : Bool} (h1 : evArgs cl gl ρ es st = .ok (ds, w) st1) (h2 : cl f ds st1 = .ok d st2) (h3 : (w && !noLD d) = false := by rfl) : ev cl gl ρ o (.call f es) st = .ok d st2 := by
  simp only [ev, h1, R.bind_ok, h2, h3]
  rfl
end

theorem x_skip2 {cl : Calls} {gl : List D} {ρ : Eng.Env} {st st1 : Sta} {ss sa : Ss} {c : E} {r : R Fl} {k : Bool} (h1 : ev cl gl ρ false c st = .ok (.bool k) st1) (hk : k = false) (h3 : execs cl gl ss ρ st1 = r) : execs cl gl (.cons (.ite c sa .nil) ss) ρ st = r := by
  subst hk
  exact x_skip h1 h3
theorem ty_tup (xs : List D) : (tyD (.tuple xs) = "dict") = False := eq_false (by show ¬ ("tuple" = "dict"); decide)
theorem ty_int (i : Int) : (tyD (.int i) = "dict") = False := eq_false (by show ¬ ("int" = "dict"); decide)
theorem ty_bool (i : Bool) : (tyD (.bool i) = "dict") = False := eq_false (by show ¬ ("bool" = "dict"); decide)
theorem ty_none : (tyD .none = "dict") = False := eq_false (by show ¬ ("NoneType" = "dict"); decide)
theorem ty_lst (xs : List D) : (tyD (.list xs) = "dict") = False := eq_false (by show ¬ ("list" = "dict"); decide)
theorem inst_tup (xs : List D) : instD (.tuple xs) "tuple" = true := by show instT "tuple" "tuple" = true; decide
theorem inst_lst (xs : List D) : instD (.list xs) "list" = true := by show instT "list" "list" = true; decide
theorem inst_bool (b : Bool) : instD (.bool b) "bool" = true := by show instT "bool" "bool" = true; decide
theorem inst_int (i : Int) : instD (.int i) "int" = true := by show instT "int" "int" = true; decide
theorem inst_intB (i : Int) : instD (.int i) "bool" = false := by show instT "int" "bool" = false; decide
theorem inst_noneB : instD .none "bool" = false := by show instT "NoneType" "bool" = false; decide
theorem inst_boolI (i : Bool) : instD (.bool i) "int" = true := by show instT "bool" "int" = true; decide
/-! ### expressions -/
section
variable {cl : Calls} {gl : List D} {ρ : Eng.Env} {st st1 st2 st3 : Sta} {i : Nat} {e a b c : E} {es : Es} {d x y z : D} {o w k : Bool} {ds : List D}
theorem e_var (h : ρ[i]? = some (.val d) := by rfl) : ev cl gl ρ o (.var i) st = .ok d st := by simp only [ev, h]
theorem e_bor (h : ρ[i]? = some (.lst ds) := by rfl) : ev cl gl ρ true (.bor i) st = .ok (.list ds) st := by simp only [ev, h, if_true]
theorem e_borV (h : ρ[i]? = some (.val d) := by rfl) : ev cl gl ρ o (.bor i) st = .ok d st := by simp only [ev, h]
theorem e_borD {kvs : List (Key × D)} (h : ρ[i]? = some (.dic kvs) := by rfl) : ev cl gl ρ true (.bor i) st = .ok (dictD kvs) st := by simp only [ev, h, if_true]
theorem e_con : ev cl gl ρ o (.const d) st = .ok d st := by simp only [ev]
theorem e_bin {op : BOp} (h1 : ev cl gl ρ true a st = .ok x st1) (h2 : ev cl gl ρ true b st1 = .ok y st2) (h3 : binD op x y = some z) : ev cl gl ρ o (.bin op a b) st = .ok z st2 := by simp only [ev, h1, h2, R.bind_ok, h3, R.of_some]
theorem e_cmp {op : COp} (h1 : ev cl gl ρ true a st = .ok x st1) (h2 : ev cl gl ρ true b st1 = .ok y st2) (h3 : cmpD op x y = some k) : ev cl gl ρ o (.cmp op a b) st = .ok (.bool k) st2 := by simp only [ev, h1, h2, R.bind_ok, h3, Option.map_some, R.of_some]
theorem e_neg {j : Int} (h1 : ev cl gl ρ false a st = .ok (.int j) st1) : ev cl gl ρ o (.neg a) st = .ok (.int (-j)) st1 := by simp only [ev, h1, R.bind_ok]
theorem e_not (h1 : ev cl gl ρ false a st = .ok (.bool k) st1) : ev cl gl ρ o (.not a) st = .ok (.bool (!k)) st1 := by simp only [ev, h1, R.bind_ok]
theorem e_and (h1 : ev cl gl ρ false a st = .ok (.bool true) st1) (h2 : ev cl gl ρ false b st1 = .ok x st2) : ev cl gl ρ o (.and a b) st = .ok x st2 := by simp only [ev, h1, R.bind_ok, h2]
theorem e_andF (h1 : ev cl gl ρ false a st = .ok (.bool false) st1) : ev cl gl ρ o (.and a b) st = .ok (.bool false) st1 := by simp only [ev, h1, R.bind_ok]
theorem e_or (h1 : ev cl gl ρ false a st = .ok (.bool false) st1) (h2 : ev cl gl ρ false b st1 = .ok x st2) : ev cl gl ρ o (.or a b) st = .ok x st2 := by simp only [ev, h1, R.bind_ok, h2]
theorem e_orT (h1 : ev cl gl ρ false a st = .ok (.bool true) st1) : ev cl gl ρ o (.or a b) st = .ok (.bool true) st1 := by simp only [ev, h1, R.bind_ok]
/-- both sides told: no draws in the second -/
theorem e_or2 {k1 k2 : Bool} (h1 : ev cl gl ρ false a st = .ok (.bool k1) st1) (h2 : ev cl gl ρ false b st1 = .ok (.bool k2) st1) : ev cl gl ρ o (.or a b) st = .ok (.bool (k1 || k2)) st1 := by
  cases k1
  · exact e_or h1 h2
  · exact e_orT h1
theorem e_and2 {k1 k2 : Bool} (h1 : ev cl gl ρ false a st = .ok (.bool k1) st1) (h2 : ev cl gl ρ false b st1 = .ok (.bool k2) st1) : ev cl gl ρ o (.and a b) st = .ok (.bool (k1 && k2)) st1 := by
  cases k1
  · exact e_andF h1
  · exact e_and h1 h2
theorem e_iteT (h1 : ev cl gl ρ false c st = .ok (.bool true) st1) (h2 : ev cl gl ρ false a st1 = .ok x st2) : ev cl gl ρ o (.ite c a b) st = .ok x st2 := by simp only [ev, h1, R.bind_ok, h2]
theorem e_iteF (h1 : ev cl gl ρ false c st = .ok (.bool false) st1) (h2 : ev cl gl ρ false b st1 = .ok x st2) : ev cl gl ρ o (.ite c a b) st = .ok x st2 := by simp only [ev, h1, R.bind_ok, h2]
theorem e_isN {yes : Bool} (h1 : ev cl gl ρ false a st = .ok x st1) (h2 : (match x with | .none => yes | _ => !yes) = k) : ev cl gl ρ o (.isN yes a) st = .ok (.bool k) st1 := by
  simp only [ev, h1, R.bind_ok]
  subst h2
  cases x <;> rfl
theorem e_tup (h : evs cl gl ρ es st = .ok ds st1) (hl : ds.length ≤ sizeLine) : ev cl gl ρ o (.tup es) st = .ok (.tuple ds) st1 := by simp only [ev, h, R.bind_ok, hl, if_true]
theorem e_lst (h : evs cl gl ρ es st = .ok ds st1) (hl : ds.length ≤ sizeLine) : ev cl gl ρ o (.lst es) st = .ok (.list ds) st1 := by simp only [ev, h, R.bind_ok, hl, if_true]
theorem e_idx (h1 : ev cl gl ρ true a st = .ok x st1) (h2 : ev cl gl ρ false b st1 = .ok y st2) (h3 : idxD x y = some z) : ev cl gl ρ o (.idx a b) st = .ok z st2 := by simp only [ev, h1, h2, R.bind_ok, h3, R.of_some]
theorem e_bi {t : Bi} (h1 : ev cl gl ρ true a st = .ok x st1) (h3 : biD t x = some z) : ev cl gl ρ o (.bi t a) st = .ok z st1 := by simp only [ev, h1, R.bind_ok, h3, R.of_some]
theorem e_inst {t : String} (h1 : ev cl gl ρ true a st = .ok x st1) (h2 : (tyD x = "dict") = False) (h3 : instD x t = k) : ev cl gl ρ o (.inst a t) st = .ok (.bool k) st1 := by
  simp only [ev, h1, R.bind_ok, h2, if_false, h3]
theorem es_nil : evs cl gl ρ .nil st = .ok [] st := by simp only [evs]
theorem es_cons (h1 : ev cl gl ρ false e st = .ok x st1) (h2 : evs cl gl ρ es st1 = .ok ds st2) : evs cl gl ρ (.cons e es) st = .ok (x :: ds) st2 := by simp only [evs, h1, R.bind_ok, h2]
theorem ea_nil : evArgs cl gl ρ .nil st = .ok ([], false) st := by simp only [evArgs]
theorem ea_cons (h1 : ev cl gl ρ (isBor e) e st = .ok x st1) (h2 : evArgs cl gl ρ es st1 = .ok (ds, w) st2) : evArgs cl gl ρ (.cons e es) st = .ok (x :: ds, ownB ρ e || w) st2 := by simp only [evArgs, h1, R.bind_ok, h2]
theorem i_none : evIf cl gl ρ .none st = .ok true st := by simp only [evIf]
theorem i_some (h : ev cl gl ρ false c st = .ok (.bool k) st1) : evIf cl gl ρ (.some c) st = .ok k st1 := by simp only [evIf, h, R.bind_ok]
theorem it_seqL {xs : List D} (h : ev cl gl ρ o e st = .ok (.list xs) st1) : evIt cl gl ρ o (.seq e) st = .ok xs st1 := by simp only [evIt, h, R.bind_ok, seqD, R.of_some]
theorem it_seqT {xs : List D} (h : ev cl gl ρ o e st = .ok (.tuple xs) st1) : evIt cl gl ρ o (.seq e) st = .ok xs st1 := by simp only [evIt, h, R.bind_ok, seqD, R.of_some]
end

/-! ### plain data -/
def sh (n : Nat) (d : D) : Bool := d.canLay0 && decide (d.depth ≤ n)
theorem sh_mono {n m : Nat} {d : D} (h : sh n d = true) (l : n ≤ m) : sh m d = true := by
  unfold sh at *
  rw [Bool.and_eq_true, decide_eq_true_eq] at *
  exact ⟨h.1, by omega⟩
theorem sh_all {n : Nat} : ∀ {ds : List D}, (∀ d ∈ ds, sh n d = true) → PyData.canLayAll0 ds = true ∧ PyData.depthAll ds ≤ n
  | [], _ => ⟨by simp only [PyData.canLayAll0], by simp only [PyData.depthAll]; omega⟩
  | d :: ds, h => by
    obtain ⟨h1, h2⟩ := sh_all (fun x hx => h x (List.mem_cons_of_mem _ hx))
    have h3 := h d (List.mem_cons_self ..)
    unfold sh at h3
    rw [Bool.and_eq_true, decide_eq_true_eq] at h3
    refine ⟨by simp only [PyData.canLayAll0, h1, h3.1, Bool.and_true], ?_⟩
    simp only [PyData.depthAll]
    omega
theorem sh_tuple {n : Nat} {ds : List D} (h : ∀ d ∈ ds, sh n d = true) : sh (n + 1) (.tuple ds) = true := by
  obtain ⟨h1, h2⟩ := sh_all h
  unfold sh
  rw [Bool.and_eq_true, decide_eq_true_eq]
  exact ⟨by simp only [PyData.canLay0, h1], by simp only [PyData.depth]; omega⟩
theorem sh_list {n : Nat} {ds : List D} (h : ∀ d ∈ ds, sh n d = true) : sh (n + 1) (.list ds) = true := by
  obtain ⟨h1, h2⟩ := sh_all h
  unfold sh
  rw [Bool.and_eq_true, decide_eq_true_eq]
  exact ⟨by simp only [PyData.canLay0, h1], by simp only [PyData.depth]; omega⟩
theorem sh_int {i : Int} : sh 0 (.int i) = true := rfl
theorem sh_bool {i : Bool} : sh 0 (.bool i) = true := rfl
theorem sh_none : sh 0 .none = true := rfl
theorem sh_shaped {n : Nat} {d : D} (h : sh n d = true) (l : n ≤ 64) : SeqAt.shaped d = true := sh_mono h l
/-- a kind of data as values -/
structure Emb {α : Type} [DecidableEq α] (φ : α → D) (n : Nat) : Prop where
  sh : ∀ x, sh n (φ x) = true
  eq : ∀ x y, PyData.eqv (φ x) (φ y) = decide (x = y)
theorem Emb.int : Emb PyData.int 0 := ⟨fun _ => rfl, fun x y => by
  simp only [PyData.eqv]
  by_cases h : x = y
  · subst h; simp
  · simp [h]⟩
theorem Emb.bool : Emb PyData.bool 0 := ⟨fun _ => rfl, fun x y => by cases x <;> cases y <;> simp [PyData.eqv]⟩
section
variable {α β : Type} [DecidableEq α] [DecidableEq β] {φ : α → D} {ψ : β → D} {n m : Nat}
theorem Emb.all (E : Emb φ n) : ∀ (xs ys : List α), PyData.eqvAll (xs.map φ) (ys.map φ) = decide (xs = ys)
  | [], [] => by simp [PyData.eqvAll]
  | [], _ :: _ => by simp [PyData.eqvAll]
  | _ :: _, [] => by simp [PyData.eqvAll]
  | x :: xs, y :: ys => by
    simp only [List.map_cons, PyData.eqvAll, E.eq, E.all xs ys, List.cons.injEq, Bool.decide_and]
theorem Emb.tup (E : Emb φ n) : Emb (fun xs : List α => PyData.tuple (xs.map φ)) (n + 1) := ⟨fun xs => sh_tuple fun d hd => by
  obtain ⟨x, _, rfl⟩ := List.mem_map.mp hd
  exact E.sh x, fun xs ys => by simp only [PyData.eqv]; exact E.all xs ys⟩
theorem Emb.lst (E : Emb φ n) : Emb (fun xs : List α => PyData.list (xs.map φ)) (n + 1) := ⟨fun xs => sh_list fun d hd => by
  obtain ⟨x, _, rfl⟩ := List.mem_map.mp hd
  exact E.sh x, fun xs ys => by simp only [PyData.eqv]; exact E.all xs ys⟩
theorem Emb.pair (E : Emb φ n) (E2 : Emb ψ n) : Emb (fun p : α × β => PyData.tuple [φ p.1, ψ p.2]) (n + 1) := ⟨fun p => sh_tuple fun d hd => by
  rcases List.mem_cons.mp hd with h | h
  · rw [h]; exact E.sh _
  · rw [List.mem_singleton.mp h]; exact E2.sh _, fun p q => by
  obtain ⟨p1, p2⟩ := p
  obtain ⟨q1, q2⟩ := q
  simp only [PyData.eqv, PyData.eqvAll, E.eq, E2.eq, Prod.mk.injEq, Bool.and_true, Bool.decide_and]⟩
theorem Emb.mono (E : Emb φ n) (l : n ≤ m) : Emb φ m := ⟨fun x => sh_mono (E.sh x) l, E.eq⟩
theorem Emb.eqD (E : Emb φ n) (x y : α) (l : n ≤ 64 := by decide) : eqD (φ x) (φ y) = some (decide (x = y)) := by
  unfold Eng.eqD
  rw [sh_shaped (E.sh x) l, sh_shaped (E.sh y) l, E.eq]
  rfl
theorem Emb.any (E : Emb φ n) (x : α) : ∀ (ys : List α), ((ys.map φ).any fun z => PyData.eqv z (φ x)) = decide (x ∈ ys)
  | [] => by simp
  | y :: ys => by
    rw [List.map_cons, List.any_cons, E.eq, E.any x ys]
    by_cases h : x = y
    · simp [h]
    · have : y ≠ x := fun z => h z.symm
      simp [h, this]
theorem Emb.inL (E : Emb φ n) (x : α) (ys : List α) (l : n + 1 ≤ 64 := by decide) : inD (φ x) (.list (ys.map φ)) = some (decide (x ∈ ys)) := by
  have h2 : Eng.sh (n + 1) (PyData.list (ys.map φ)) = true := E.lst.sh ys
  show (if (SeqAt.shaped (φ x) && SeqAt.shaped (PyData.list (ys.map φ))) = true then some ((ys.map φ).any fun z => PyData.eqv z (φ x)) else none) = _
  rw [sh_shaped (E.sh x) (by omega), sh_shaped h2 l, E.any]
  rfl
end
theorem eqD_int (i j : Int) : eqD (.int i) (.int j) = some (decide (i = j)) := Emb.int.eqD i j
theorem eqD_bool (i j : Bool) : eqD (.bool i) (.bool j) = some (decide (i = j)) := Emb.bool.eqD i j
theorem inD_tup (i : Int) (ns : List Int) : inD (.int i) (.tuple (ns.map .int)) = some (decide (i ∈ ns)) := by
  simp only [inD]
  rw [if_pos, Emb.int.any]
  rw [List.all_eq_true]
  intro d hd
  obtain ⟨x, _, rfl⟩ := List.mem_map.mp hd
  rfl
theorem inD_lst (i : Int) (ns : List Int) : inD (.int i) (.list (ns.map .int)) = some (decide (i ∈ ns)) := Emb.int.inL i ns
theorem c_eq (i j : Int) : cmpD .eq (.int i) (.int j) = some (decide (i = j)) := eqD_int i j
theorem c_ne (i j : Int) : cmpD .ne (.int i) (.int j) = some (!decide (i = j)) := by simp only [cmpD, eqD_int, Option.map_some]
theorem c_neB (i j : Bool) : cmpD .ne (.bool i) (.bool j) = some (!decide (i = j)) := by simp only [cmpD, eqD_bool, Option.map_some]
theorem c_inn (i : Int) (ns : List Int) : cmpD .inn (.int i) (.tuple (ns.map .int)) = some (decide (i ∈ ns)) := inD_tup i ns
theorem c_nin (i : Int) (ns : List Int) : cmpD .nin (.int i) (.tuple (ns.map .int)) = some (!decide (i ∈ ns)) := by simp only [cmpD, inD_tup, Option.map_some]
theorem c_innL (i : Int) (ns : List Int) : cmpD .inn (.int i) (.list (ns.map .int)) = some (decide (i ∈ ns)) := inD_lst i ns
theorem c_ninL (i : Int) (ns : List Int) : cmpD .nin (.int i) (.list (ns.map .int)) = some (!decide (i ∈ ns)) := by simp only [cmpD, inD_lst, Option.map_some]
theorem c_neT (a b : List Int) : cmpD .ne (.tuple (a.map .int)) (.tuple (b.map .int)) = some (!decide (a = b)) := by
  have h := Emb.int.tup.eqD a b
  simp only [cmpD, h, Option.map_some]
theorem c_eqT (a b : List Int) : cmpD .eq (.tuple (a.map .int)) (.tuple (b.map .int)) = some (decide (a = b)) := Emb.int.tup.eqD a b
theorem c_neL (a b : List Int) : cmpD .ne (.list (a.map .int)) (.list (b.map .int)) = some (!decide (a = b)) := by
  have h := Emb.int.lst.eqD a b
  simp only [cmpD, h, Option.map_some]
theorem c_gt (i j : Int) : cmpD .gt (.int i) (.int j) = some (decide (j < i)) := rfl
theorem c_lt (i j : Int) : cmpD .lt (.int i) (.int j) = some (decide (i < j)) := rfl
theorem c_le (i j : Int) : cmpD .le (.int i) (.int j) = some (decide (i ≤ j)) := rfl
theorem c_ge (i j : Int) : cmpD .ge (.int i) (.int j) = some (decide (j ≤ i)) := rfl
theorem szl {n : Nat} (h : n ≤ 1000000) : n ≤ sizeLine := by
  have e : sizeLine = 16777216 := by decide +kernel
  omega
theorem szt {n : Nat} (h : n ≤ 1000000) : n < sizeLine := by
  have e : sizeLine = 16777216 := by decide +kernel
  omega
theorem low {n : Nat} (h : n ≤ 1000000) : n < 1000000000 := by omega
theorem map_map {α : Type} (l : List α) (f : α → Int) : l.map (fun x => PyData.int (f x)) = (l.map f).map PyData.int := by rw [List.map_map]; rfl
theorem modD {i j : Int} (h : 0 < j) : binD .mod (.int i) (.int j) = some (.int (i % j)) := by
  simp only [binD, intD, decide_eq_true h, if_true]
theorem fdivD {i j : Int} (h : 0 < j ∧ j.natAbs.log2 < 9000) : binD .fdiv (.int i) (.int j) = some (.int (i / j)) := by
  simp only [binD, intD, decide_eq_true h, if_true]
theorem subD {i j : Int} : binD .sub (.int i) (.int j) = some (.int (i - j)) := rfl
theorem intsD_map : ∀ (ns : List Int), intsD (ns.map .int) = some ns
  | [] => rfl
  | n :: ns => by simp only [List.map_cons, intsD, intsD_map ns]; rfl
theorem sortedD (ns : List Int) : biD .sorted (.list (ns.map .int)) = some (.list ((isort ns).map .int)) := by
  simp only [biD, intsD_map]
  rfl
theorem sumD (ns : List Int) : biD .sum (.list (ns.map .int)) = some (.int ns.sum) := by
  simp only [biD, intsD_map]
  rfl
theorem addD_lst (xs ys : List D) (h : xs.length + ys.length ≤ sizeLine) : addD (.list xs) (.list ys) = some (.list (xs ++ ys)) := by
  simp only [addD, h, if_true]
theorem addB (x y : D) : binD .add x y = addD x y := by unfold binD; rfl
theorem addD_tup (xs ys : List D) (h : xs.length + ys.length ≤ sizeLine) : addD (.tuple xs) (.tuple ys) = some (.tuple (xs ++ ys)) := by
  simp only [addD, h, if_true]
theorem idxT0 (d : D) (ds : List D) : idxD (.tuple (d :: ds)) (.int 0) = some d := atI_nat (j := 0) rfl
theorem idxL0 (d : D) (ds : List D) : idxD (.list (d :: ds)) (.int 0) = some d := atI_nat (j := 0) rfl
theorem idxT {xs : List D} {i : Nat} {d : D} (h : xs[i]? = some d) : idxD (.tuple xs) (.int (i : Nat)) = some d := atI_nat h
theorem idxL {xs : List D} {i : Nat} {d : D} (h : xs[i]? = some d) : idxD (.list xs) (.int (i : Nat)) = some d := atI_nat h

/-! ### lists of ints -/
def rng (n : Nat) : List Int := (List.range n).map fun i : Nat => (i : Int)
theorem rangeD_rng (n : Nat) : rangeD 0 1 n = (rng n).map .int := by
  unfold rangeD rng
  rw [List.map_map]
  apply List.map_congr_left
  intro i _
  show PyData.int (0 + (i : Int) * 1) = PyData.int i
  rw [Int.zero_add, Int.mul_one]
theorem mem_rng {n : Nat} {x : Int} : x ∈ rng n ↔ 0 ≤ x ∧ x < n := by
  unfold rng
  rw [List.mem_map]
  constructor
  · rintro ⟨i, hi, rfl⟩
    have := List.mem_range.mp hi
    omega
  · rintro ⟨h1, h2⟩
    exact ⟨x.toNat, List.mem_range.mpr (by omega), by omega⟩
theorem rng_len (n : Nat) : (rng n).length = n := by unfold rng; simp
theorem smallI_nat {n : Nat} (h : n < 1000000000) : smallI (n : Int) = true := by
  unfold smallI
  have e : (2 : Int) ^ 62 = 4611686018427387904 := by decide +kernel
  rw [e]
  exact decide_eq_true ⟨by omega, by omega⟩
theorem evIt_rngI {cl : Calls} {gl : List D} {ρ : Eng.Env} {o : Bool} {a : E} {st st1 : Sta} {j : Int} (h : ev cl gl ρ false a st = .ok (.int j) st1) (hj : smallI j = true) : evIt cl gl ρ o (.rng1 a) st = .ok (rangeD 0 1 j.toNat) st1 := by
  simp only [evIt, h, R.bind_ok]
  rw [if_pos hj]
def Low (n : Nat) : Prop := n < 1000000000
theorem evIt_rng1 {cl : Calls} {gl : List D} {ρ : Eng.Env} {o : Bool} {a : E} {n : Nat} {st st1 : Sta} (h : ev cl gl ρ false a st = .ok (.int n) st1) (hn : Low n) : evIt cl gl ρ o (.rng1 a) st = .ok ((rng n).map .int) st1 :=
  (evIt_rngI h (smallI_nat hn)).trans (congrArg (fun z => R.ok z st1) ((congrArg (rangeD 0 1) (Int.toNat_natCast n)).trans (rangeD_rng n)))
/-- lo, lo + 1, .. -/
def rngF (lo : Int) (m : Nat) : List Int := (List.range m).map fun i : Nat => lo + (i : Int)
theorem rangeD_from (lo : Int) (m : Nat) : rangeD lo 1 m = (rngF lo m).map .int := by
  unfold rangeD rngF
  rw [List.map_map]
  apply List.map_congr_left
  intro i _
  show PyData.int (lo + (i : Int) * 1) = PyData.int (lo + i)
  rw [Int.mul_one]
theorem mem_rngF {lo : Int} {m : Nat} {x : Int} : x ∈ rngF lo m ↔ lo ≤ x ∧ x < lo + m := by
  unfold rngF
  rw [List.mem_map]
  constructor
  · rintro ⟨i, hi, rfl⟩
    have := List.mem_range.mp hi
    omega
  · rintro ⟨h1, h2⟩
    exact ⟨(x - lo).toNat, List.mem_range.mpr (by omega), by omega⟩
theorem rngF_len (lo : Int) (m : Nat) : (rngF lo m).length = m := by unfold rngF; simp
theorem smallI_of {i : Int} (h1 : -1000000000 ≤ i) (h2 : i ≤ 1000000000) : smallI i = true := by
  unfold smallI
  have e : (2 : Int) ^ 62 = 4611686018427387904 := by decide +kernel
  rw [e]
  exact decide_eq_true ⟨by omega, by omega⟩
theorem evIt_rng2 {cl : Calls} {gl : List D} {ρ : Eng.Env} {o : Bool} {a b : E} {st st1 st2 : Sta} {i j : Int} (h : ev cl gl ρ false a st = .ok (.int i) st1) (h2 : ev cl gl ρ false b st1 = .ok (.int j) st2) (hi : smallI i = true) (hj : smallI j = true) : evIt cl gl ρ o (.rng2 a b) st = .ok ((rngF i (j - i).toNat).map .int) st2 := by
  simp only [evIt, h, h2, R.bind_ok, hi, hj, Bool.and_true, if_true]
  rw [rangeD_from]
abbrev SS (l : List Int) : Prop := l.Pairwise (· < ·)
theorem ss_rng (n : Nat) : SS (rng n) := by
  unfold rng
  rw [SS, List.pairwise_map]
  exact (List.pairwise_lt_range (n := n)).imp fun h => by omega
theorem ss_rngF (lo : Int) (n : Nat) : SS (rngF lo n) := by
  unfold rngF
  rw [SS, List.pairwise_map]
  exact (List.pairwise_lt_range (n := n)).imp fun h => by omega
theorem ss_ext : ∀ {a b : List Int}, SS a → SS b → (∀ x, x ∈ a ↔ x ∈ b) → a = b
  | [], [], _, _, _ => rfl
  | [], y :: ys, _, _, h => by have := (h y).mpr (List.mem_cons_self ..); cases this
  | x :: xs, [], _, _, h => by have := (h x).mp (List.mem_cons_self ..); cases this
  | x :: xs, y :: ys, ha, hb, h => by
    obtain ⟨a1, a2⟩ := List.pairwise_cons.mp ha
    obtain ⟨b1, b2⟩ := List.pairwise_cons.mp hb
    have e : x = y := by
      have h1 := (h x).mp (List.mem_cons_self ..)
      have h2 := (h y).mpr (List.mem_cons_self ..)
      rcases List.mem_cons.mp h1 with h1 | h1
      · exact h1
      · rcases List.mem_cons.mp h2 with h2 | h2
        · exact h2.symm
        · have := a1 _ h2
          have := b1 _ h1
          omega
    subst e
    rw [ss_ext a2 b2 fun z => ?_]
    constructor
    · intro hz
      rcases List.mem_cons.mp ((h z).mp (List.mem_cons_of_mem _ hz)) with w | w
      · have := a1 z hz; omega
      · exact w
    · intro hz
      rcases List.mem_cons.mp ((h z).mpr (List.mem_cons_of_mem _ hz)) with w | w
      · have := b1 z hz; omega
      · exact w
theorem ss_isort {l : List Int} (h : l.Nodup) : SS (isort l) := by
  have h1 := isort_sorted l
  have h2 : (isort l).Nodup := (isort_perm l).nodup_iff.mpr h
  exact (h1.and h2).imp fun ⟨a, b⟩ => by omega
theorem mem_isort {l : List Int} {x : Int} : x ∈ isort l ↔ x ∈ l := (isort_perm l).mem_iff
theorem isort_len (l : List Int) : (isort l).length = l.length := (isort_perm l).length_eq
theorem SS.nodup {l : List Int} (h : SS l) : l.Nodup := h.imp fun h => by omega
theorem SS.sub {l m : List Int} (h : SS m) (s : l.Sublist m) : SS l := List.Pairwise.sublist s h
theorem SS.filter {l : List Int} (h : SS l) (p : Int → Bool) : SS (l.filter p) := h.sub List.filter_sublist

/-! ### draws -/
def Good (st : Sta) : Prop := ∃ cells seed, st = some (cells, seed) ∧ 0 ≤ seed ∧ seed < 2147483648
theorem draw_good {st : Sta} (h : Good st) {m : Int} (h1 : 0 < m) (h2 : m < 1073741824) : ∃ (i : Nat) (st' : Sta), drawS [stTok, .int m] st = .ok (.int (i : Nat)) st' ∧ (i : Int) < m ∧ Good st' := by
  obtain ⟨cells, seed, rfl, g1, g2⟩ := h
  have e : drawS [stTok, .int m] (some (cells, seed)) = .ok (.int (drawN (cells, seed) m).1) (some (drawN (cells, seed) m).2) := by
    unfold drawS stTok
    simp only
    rw [if_pos ⟨h1, h2, g1, g2⟩]
  have k : 0 ≤ (drawN (cells, seed) m).1 ∧ (drawN (cells, seed) m).1 < m ∧ 0 ≤ (drawN (cells, seed) m).2.2 ∧ (drawN (cells, seed) m).2.2 < 2147483648 := by
    unfold drawN
    simp only
    split
    · exact ⟨Int.emod_nonneg _ (by omega), Int.emod_lt_of_pos _ h1, g1, g2⟩
    · have := mixS_range seed
      exact ⟨Int.emod_nonneg _ (by omega), Int.emod_lt_of_pos _ h1, this.1, by show mixS seed < _; omega⟩
  refine ⟨(drawN (cells, seed) m).1.toNat, _, ?_, by omega, ⟨(drawN (cells, seed) m).2.1, (drawN (cells, seed) m).2.2, rfl, k.2.2.1, k.2.2.2⟩⟩
  rw [e, Int.toNat_of_nonneg k.1]
theorem good_start (ns : List Int) (h : 0 ≤ seedN ns ∧ seedN ns < 1000003) : Good (some (ns.map absN, seedN ns + 1)) := ⟨_, _, rfl, by omega, by omega⟩
end Eng

end
section
set_option Elab.async false
set_option linter.all false
set_option maxRecDepth 100000
set_option maxHeartbeats 16000000
set_option autoImplicit false
/-! Eng, part O: graphs as plain data: neighbours, sums of sets, odd sets. -/
namespace Eng
open PySem PySem.Spec PyProof.Rows L2

def edgeD (e : Int × Int) : D := .tuple [.int e.1, .int e.2]
def nbr (es : List (Int × Int)) (v : Int) : List Int := isort (((es.filter fun e => decide (e.1 = v)).map fun e => e.2) ++ ((es.filter fun e => decide (e.2 = v)).map fun e => e.1))
def sumL (a b : List Int) : List Int := isort ((a.filter fun x => !decide (x ∈ b)) ++ (b.filter fun x => !decide (x ∈ a)))
def oddF (es : List (Int × Int)) (t sm : List Int) : List Int := sm.foldl (fun t v => sumL t (nbr es v)) t
def oddL (es : List (Int × Int)) (sm : List Int) : List Int := oddF es [] sm
def xorL (n : Nat) (a b : List Int) : List Int := (rng n).filter fun x => !decide (decide (x ∈ a) = decide (x ∈ b))
def oddR (n : Nat) (es : List (Int × Int)) (sm : List Int) : List Int := (rng n).filter fun v => decide ((((nbr es v).filter fun u => decide (u ∈ sm)).length : Int) % 2 = 1)
/-- a graph's edges -/
structure Simple (n : Nat) (es : List (Int × Int)) : Prop where
  nd : es.Nodup
  ok : ∀ e ∈ es, 0 ≤ e.1 ∧ e.1 < e.2 ∧ e.2 < n
theorem mem_sumL {a b : List Int} {x : Int} : x ∈ sumL a b ↔ (x ∈ a ∧ x ∉ b) ∨ (x ∈ b ∧ x ∉ a) := by
  unfold sumL
  rw [mem_isort, List.mem_append, List.mem_filter, List.mem_filter]
  simp
theorem ss_sumL {a b : List Int} (ha : SS a) (hb : SS b) : SS (sumL a b) := by
  refine ss_isort (List.nodup_append.mpr ⟨(ha.filter _).nodup, (hb.filter _).nodup, fun x hx y hy e => ?_⟩)
  subst e
  have h1 := List.mem_filter.mp hx
  have h2 := List.mem_filter.mp hy
  have h3 := h1.2
  simp only [Bool.not_eq_true', decide_eq_false_iff_not] at h3
  exact h3 h2.1
theorem mem_nbr {es : List (Int × Int)} {v u : Int} : u ∈ nbr es v ↔ (v, u) ∈ es ∨ (u, v) ∈ es := by
  unfold nbr
  rw [mem_isort, List.mem_append, List.mem_map, List.mem_map]
  constructor
  · rintro (⟨⟨a, b⟩, h, rfl⟩ | ⟨⟨a, b⟩, h, rfl⟩)
    · have h := List.mem_filter.mp h
      have e := of_decide_eq_true h.2
      simp only at e
      subst e
      exact .inl h.1
    · have h := List.mem_filter.mp h
      have e := of_decide_eq_true h.2
      simp only at e
      subst e
      exact .inr h.1
  · rintro (h | h)
    · exact .inl ⟨_, List.mem_filter.mpr ⟨h, by simp⟩, rfl⟩
    · exact .inr ⟨_, List.mem_filter.mpr ⟨h, by simp⟩, rfl⟩
theorem nodup_map {α β : Type} {f : α → β} : ∀ {l : List α}, l.Nodup → (∀ x ∈ l, ∀ y ∈ l, f x = f y → x = y) → (l.map f).Nodup
  | [], _, _ => List.nodup_nil
  | x :: xs, h, i => by
    obtain ⟨h1, h2⟩ := List.nodup_cons.mp h
    rw [List.map_cons]
    refine List.nodup_cons.mpr ⟨fun z => ?_, nodup_map h2 fun a ha b hb => i a (List.mem_cons_of_mem _ ha) b (List.mem_cons_of_mem _ hb)⟩
    obtain ⟨y, hy, e⟩ := List.mem_map.mp z
    have := i y (List.mem_cons_of_mem _ hy) x (List.mem_cons_self ..) e
    subst this
    exact h1 hy
theorem ss_nbr {n : Nat} {es : List (Int × Int)} (S : Simple n es) (v : Int) : SS (nbr es v) := by
  refine ss_isort (List.nodup_append.mpr ⟨nodup_map (S.nd.filter _) ?_, nodup_map (S.nd.filter _) ?_, ?_⟩)
  · rintro ⟨a, b⟩ hx ⟨c, d⟩ hy e
    have h1 := of_decide_eq_true (List.mem_filter.mp hx).2
    have h2 := of_decide_eq_true (List.mem_filter.mp hy).2
    simp only at h1 h2 e
    rw [h1, h2, e]
  · rintro ⟨a, b⟩ hx ⟨c, d⟩ hy e
    have h1 := of_decide_eq_true (List.mem_filter.mp hx).2
    have h2 := of_decide_eq_true (List.mem_filter.mp hy).2
    simp only at h1 h2 e
    rw [h1, h2, e]
  · intro x hx y hy e
    obtain ⟨⟨a, b⟩, h, rfl⟩ := List.mem_map.mp hx
    obtain ⟨⟨c, d⟩, h', rfl⟩ := List.mem_map.mp hy
    have h1 := List.mem_filter.mp h
    have h2 := List.mem_filter.mp h'
    have h3 := S.ok _ h1.1
    have h4 := S.ok _ h2.1
    have h5 := of_decide_eq_true h1.2
    have h6 := of_decide_eq_true h2.2
    simp only at h3 h4 h5 h6 e
    omega
theorem nbr_symm {es : List (Int × Int)} {v u : Int} : u ∈ nbr es v ↔ v ∈ nbr es u := by
  rw [mem_nbr, mem_nbr]
  exact Or.comm
theorem nbr_rng {n : Nat} {es : List (Int × Int)} (S : Simple n es) {v u : Int} (h : u ∈ nbr es v) : u ∈ rng n := by
  rw [mem_rng]
  rcases mem_nbr.mp h with h | h
  · have := S.ok _ h; simp only at this; omega
  · have := S.ok _ h; simp only at this; omega
def cnt (es : List (Int × Int)) (x : Int) (sm : List Int) : Nat := (sm.filter fun v => decide (x ∈ nbr es v)).length
theorem oddF_ok {n : Nat} {es : List (Int × Int)} (S : Simple n es) : ∀ (sm t : List Int), SS t → SS (oddF es t sm) ∧ ∀ x, x ∈ oddF es t sm ↔ ((x ∈ t ∧ cnt es x sm % 2 = 0) ∨ (x ∉ t ∧ cnt es x sm % 2 = 1))
  | [], t, h => ⟨h, fun x => by simp [oddF, cnt]⟩
  | v :: sm, t, h => by
    have ih := oddF_ok S sm (sumL t (nbr es v)) (ss_sumL h (ss_nbr S v))
    refine ⟨ih.1, fun x => (ih.2 x).trans ?_⟩
    rw [mem_sumL]
    have c : cnt es x (v :: sm) = cnt es x sm + if x ∈ nbr es v then 1 else 0 := by
      unfold cnt
      rw [List.filter_cons]
      split
      · rename_i q; rw [if_pos (of_decide_eq_true q), List.length_cons]
      · rename_i q; rw [if_neg (by simpa using q)]; rfl
    rw [c]
    by_cases h1 : x ∈ t <;> by_cases h2 : x ∈ nbr es v <;> simp [h1, h2] <;> omega
theorem ss_oddL {n : Nat} {es : List (Int × Int)} (S : Simple n es) (sm : List Int) : SS (oddL es sm) := (oddF_ok S sm [] List.Pairwise.nil).1
theorem mem_oddL {n : Nat} {es : List (Int × Int)} (S : Simple n es) {sm : List Int} {x : Int} : x ∈ oddL es sm ↔ cnt es x sm % 2 = 1 := by
  have := (oddF_ok S sm [] List.Pairwise.nil).2 x
  simpa [oddL] using this
theorem oddL_rng {n : Nat} {es : List (Int × Int)} (S : Simple n es) {sm : List Int} {x : Int} (h : x ∈ oddL es sm) : x ∈ rng n := by
  have h1 := (mem_oddL S).mp h
  unfold cnt at h1
  cases q : sm.filter fun v => decide (x ∈ nbr es v) with
  | nil => rw [q] at h1; simp at h1
  | cons v r =>
    have : v ∈ sm.filter fun v => decide (x ∈ nbr es v) := by rw [q]; exact List.mem_cons_self ..
    exact nbr_rng S (of_decide_eq_true (List.mem_filter.mp this).2)
theorem oddL_eq {n : Nat} {es : List (Int × Int)} (S : Simple n es) {sm : List Int} (hs : SS sm) : oddL es sm = oddR n es sm := by
  refine ss_ext (ss_oddL S sm) ((ss_rng n).filter _) fun x => ?_
  have e : (nbr es x).filter (fun u => decide (u ∈ sm)) = sm.filter fun v => decide (x ∈ nbr es v) := by
    refine ss_ext ((ss_nbr S x).filter _) (hs.filter _) fun u => ?_
    rw [List.mem_filter, List.mem_filter, decide_eq_true_eq, decide_eq_true_eq, nbr_symm (v := x)]
    exact And.comm
  unfold oddR
  rw [List.mem_filter, decide_eq_true_eq, e]
  constructor
  · intro h
    refine ⟨oddL_rng S h, ?_⟩
    have := (mem_oddL S).mp h
    unfold cnt at this
    omega
  · rintro ⟨_, h⟩
    refine (mem_oddL S).mpr ?_
    unfold cnt
    omega
theorem sumL_xor {n : Nat} {a b : List Int} (ha : SS a) (hb : SS b) (ia : ∀ x ∈ a, x ∈ rng n) (ib : ∀ x ∈ b, x ∈ rng n) : sumL a b = xorL n a b := by
  refine ss_ext (ss_sumL ha hb) ((ss_rng n).filter _) fun x => ?_
  unfold xorL
  rw [mem_sumL, List.mem_filter]
  by_cases h1 : x ∈ a <;> by_cases h2 : x ∈ b <;> simp [h1, h2]
  · exact ia x h1
  · exact ib x h2
theorem filter_split {α : Type} (p q : α → Bool) : ∀ l : List α, (l.filter q).length = ((l.filter p).filter q).length + ((l.filter fun x => !p x).filter q).length
  | [] => rfl
  | x :: l => by
    have ih := filter_split p q l
    cases h1 : p x <;> cases h2 : q x <;> simp only [List.filter_cons, h1, h2, Bool.not_true, Bool.not_false, if_true, List.length_cons, Bool.false_eq_true, if_false] <;> omega
theorem cnt_sum {es : List (Int × Int)} {a b : List Int} (ha : SS a) (hb : SS b) (x : Int) : cnt es x (sumL a b) % 2 = (cnt es x a + cnt es x b) % 2 := by
  have h1 := filter_split (fun y => decide (y ∈ b)) (fun v => decide (x ∈ nbr es v)) a
  have h2 := filter_split (fun y => decide (y ∈ a)) (fun v => decide (x ∈ nbr es v)) b
  have h3 : a.filter (fun y => decide (y ∈ b)) = b.filter (fun y => decide (y ∈ a)) := ss_ext (ha.filter _) (hb.filter _) fun y => by
    rw [List.mem_filter, List.mem_filter, decide_eq_true_eq, decide_eq_true_eq]
    exact And.comm
  have h4 : cnt es x (sumL a b) = ((a.filter fun y => !decide (y ∈ b)).filter fun v => decide (x ∈ nbr es v)).length + ((b.filter fun y => !decide (y ∈ a)).filter fun v => decide (x ∈ nbr es v)).length := by
    unfold cnt sumL
    rw [((isort_perm _).filter _).length_eq, List.filter_append, List.length_append]
  rw [h3] at h1
  rw [h4]
  unfold cnt
  omega
theorem odd_sum {n : Nat} {es : List (Int × Int)} (S : Simple n es) {a b : List Int} (ha : SS a) (hb : SS b) : sumL (oddL es a) (oddL es b) = oddL es (sumL a b) := by
  refine ss_ext (ss_sumL (ss_oddL S a) (ss_oddL S b)) (ss_oddL S _) fun x => ?_
  rw [mem_sumL, mem_oddL S, mem_oddL S, mem_oddL S, cnt_sum ha hb]
  omega
end Eng

end
section
set_option Elab.async false
set_option linter.all false
set_option maxRecDepth 100000
set_option maxHeartbeats 16000000
set_option autoImplicit false
/-! Eng, part P: masks, parities, rows of bits. -/
namespace Eng
open PySem PySem.Spec PyProof.Rows L2

/-! ### the machine's operators at nats -/
theorem xor_and_or (a : Nat) : ∀ b : Nat, (a ^^^ b) + (a &&& b) = a ||| b := by
  induction a using Nat.strongRecOn with
  | _ a ih =>
    intro b
    by_cases h0 : a = 0
    · subst h0; simp
    · have i := ih (a / 2) (by omega) (b / 2)
      rw [← Nat.xor_div_two, ← Nat.and_div_two, ← Nat.or_div_two] at i
      have h1 := @Nat.xor_mod_two_eq_one a b
      have h2 := @Nat.and_mod_two_eq_one a b
      have h3 := @Nat.or_mod_two_eq_one a b
      have e1 := Nat.div_add_mod (a ^^^ b) 2
      have e2 := Nat.div_add_mod (a &&& b) 2
      have e3 := Nat.div_add_mod (a ||| b) 2
      by_cases p : a % 2 = 1 <;> by_cases q : b % 2 = 1 <;> simp only [p, q, true_and, and_true, or_true, true_or, iff_true, not_true, iff_false, false_and, and_false, or_false, false_or, not_false_eq_true, true_iff] at h1 h2 h3 <;> omega
theorem bitAnd_nat (a b : Nat) : Builtin.bitAnd (a : Int) (b : Int) = ((a &&& b : Nat) : Int) := by
  unfold Builtin.bitAnd
  rw [decide_eq_true (by omega : (0 : Int) ≤ a), decide_eq_true (by omega : (0 : Int) ≤ b)]
  simp only [Int.toNat_natCast]
theorem bitNot_nat (a : Int) : Builtin.bitNot a = -a - 1 := by
  unfold Builtin.bitNot
  omega
theorem bitXor_nat (a b : Nat) : Builtin.bitXor (a : Int) (b : Int) = ((a ^^^ b : Nat) : Int) := by
  have h : Builtin.bitOr (a : Int) (b : Int) = ((a ||| b : Nat) : Int) := by
    unfold Builtin.bitOr Builtin.bitAnd
    rw [decide_eq_false (by rw [bitNot_nat]; omega : ¬ (0 : Int) ≤ Builtin.bitNot a), decide_eq_false (by rw [bitNot_nat]; omega : ¬ (0 : Int) ≤ Builtin.bitNot b)]
    simp only [bitNot_nat]
    have e : ∀ c : Nat, (-(-(c : Int) - 1) - 1).toNat = c := fun c => by omega
    rw [e, e]
    omega
  unfold Builtin.bitXor
  rw [h, bitAnd_nat]
  have := xor_and_or a b
  omega
theorem andD (a b : Nat) : binD .band (.int a) (.int b) = some (.int (a &&& b : Nat)) := by
  simp only [binD, intD, if_true, bitAnd_nat]
theorem xorD (a b : Nat) : binD .bxor (.int a) (.int b) = some (.int (a ^^^ b : Nat)) := by
  simp only [binD, intD, if_true, bitXor_nat]
theorem shlD (i j : Nat) (h1 : i < 1000) (h2 : j < 1000) : binD .shl (.int i) (.int j) = some (.int (i * 2 ^ j : Nat)) := by
  have hb : Builtin.Int.intBits (i : Int) ≤ 10 := by
    unfold Builtin.Int.intBits
    split
    · omega
    · rename_i z
      have z2 : i ≠ 0 := fun e => z (by subst e; rfl)
      have : (i : Int).natAbs.log2 < 10 := (Nat.log2_lt (by omega)).mpr (by omega)
      omega
  have c : (0 : Int) ≤ (j : Int) ∧ (Builtin.Int.intBits (i : Int) : Int) + (j : Int) ≤ 2 ^ 27 := ⟨by omega, by
    have e : (2 : Int) ^ 27 = 134217728 := by decide +kernel
    rw [e]; omega⟩
  simp only [binD, intD, decide_eq_true c, if_true, Int.toNat_natCast]
  rw [Int.natCast_mul, Int.natCast_pow]
  rfl
theorem shrD (i j : Nat) : binD .shr (.int i) (.int j) = some (.int (i / 2 ^ j : Nat)) := by
  have c : (0 : Int) ≤ (j : Int) := by omega
  simp only [binD, intD, decide_eq_true c, if_true, Int.toNat_natCast]
  rw [Int.natCast_ediv, Int.natCast_pow]
  rfl
theorem modD2 (i m : Nat) (h : 0 < m) : binD .mod (.int i) (.int m) = some (.int (i % m : Nat)) := by
  rw [modD (by omega), Int.natCast_emod]
/-- the number of bits -/
def bitsN (m : Nat) : Nat := if m = 0 then 0 else m.log2 + 1
theorem bits_nat (m : Nat) : Builtin.Int.intBits (m : Int) = bitsN m := by
  unfold Builtin.Int.intBits bitsN
  by_cases h : m = 0
  · subst h; rfl
  · rw [if_neg (by simpa using h), if_neg h]
    rfl
theorem e_bits {cl : Calls} {gl : List D} {ρ : Eng.Env} {st st1 : Sta} {a : E} {o : Bool} {m : Nat} (h : ev cl gl ρ false a st = .ok (.int m) st1) : ev cl gl ρ o (.bits a) st = .ok (.int (bitsN m)) st1 := by
  simp only [ev, h, R.bind_ok, bits_nat]
theorem lt_bits (m : Nat) : m < 2 ^ bitsN m := by
  unfold bitsN
  by_cases h : m = 0
  · subst h; decide
  · rw [if_neg h]; exact Nat.lt_log2_self
theorem bits_le {m n : Nat} (h : m < 2 ^ n) : bitsN m ≤ n := by
  unfold bitsN
  by_cases z : m = 0
  · rw [if_pos z]; omega
  · rw [if_neg z]
    exact (Nat.log2_lt z).mpr h
theorem tb_bits {m i : Nat} (h : m.testBit i = true) : i < bitsN m := by
  rcases Nat.lt_or_ge i (bitsN m) with z | z
  · exact z
  · rw [Nat.testBit_lt_two_pow (Nat.lt_of_lt_of_le (lt_bits m) (Nat.pow_le_pow_right (by decide) z))] at h
    cases h
/-! ### masks of sets -/
def maskB (p : Nat → Bool) : Nat → Nat
  | 0 => 0
  | n + 1 => maskB p n + if p n then 2 ^ n else 0
theorem maskB_lt (p : Nat → Bool) : ∀ n, maskB p n < 2 ^ n
  | 0 => Nat.one_pos
  | n + 1 => by
    have := maskB_lt p n
    unfold maskB
    rw [Nat.pow_succ]
    split <;> omega
theorem maskB_bit (p : Nat → Bool) : ∀ n i, (maskB p n).testBit i = (decide (i < n) && p i)
  | 0, i => by simp [maskB]
  | n + 1, i => by
    have ih := maskB_bit p n i
    have hl := maskB_lt p n
    unfold maskB
    by_cases hp : p n = true
    · rw [if_pos hp, Nat.add_comm]
      rcases Nat.lt_trichotomy i n with h | h | h
      · rw [Nat.testBit_two_pow_add_gt h, ih, decide_eq_true h, decide_eq_true (by omega : i < n + 1)]
      · subst h
        rw [Nat.testBit_two_pow_add_eq, ih]
        simp [hp]
      · rw [Nat.testBit_lt_two_pow (i := i) (Nat.lt_of_lt_of_le (show 2 ^ n + maskB p n < 2 ^ (n + 1) by rw [Nat.pow_succ]; omega) (Nat.pow_le_pow_right (by decide) h)), decide_eq_false (by omega : ¬ i < n + 1)]
        rfl
    · rw [if_neg hp, Nat.add_zero, ih]
      rcases Nat.lt_trichotomy i n with h | h | h
      · rw [decide_eq_true h, decide_eq_true (by omega : i < n + 1)]
      · subst h
        simp [hp]
      · rw [decide_eq_false (by omega : ¬ i < n), decide_eq_false (by omega : ¬ i < n + 1)]
def setN (l : List Int) : Nat := maskB (fun i => decide ((i : Int) ∈ l)) 25
theorem setN_bit (l : List Int) (i : Nat) : (setN l).testBit i = (decide (i < 25) && decide ((i : Int) ∈ l)) := maskB_bit _ _ _
theorem setN_lt (l : List Int) : setN l < 2 ^ 25 := maskB_lt _ _
def membersN (m : Nat) : List Int := (rng (bitsN m)).filter fun i => m.testBit i.toNat
theorem mem_membersN {m : Nat} {x : Int} : x ∈ membersN m ↔ 0 ≤ x ∧ m.testBit x.toNat = true := by
  unfold membersN
  rw [List.mem_filter, mem_rng]
  constructor
  · exact fun h => ⟨h.1.1, h.2⟩
  · intro h
    have := tb_bits h.2
    exact ⟨⟨h.1, by omega⟩, h.2⟩
theorem ss_membersN (m : Nat) : SS (membersN m) := (ss_rng _).filter _
theorem members_setN {l : List Int} {n : Nat} (hn : n ≤ 25) (hs : SS l) (hr : ∀ x ∈ l, x ∈ rng n) : membersN (setN l) = l := by
  refine ss_ext (ss_membersN _) hs fun x => ?_
  rw [mem_membersN, setN_bit]
  constructor
  · rintro ⟨h1, h2⟩
    simp only [Bool.and_eq_true, decide_eq_true_eq] at h2
    have e : (x.toNat : Int) = x := by omega
    rw [← e]; exact h2.2
  · intro h
    have := mem_rng.mp (hr x h)
    refine ⟨this.1, ?_⟩
    have e : (x.toNat : Int) = x := by omega
    rw [e, decide_eq_true h, decide_eq_true (by omega)]
    rfl
theorem setN_xor (a b : List Int) : setN (sumL a b) = setN a ^^^ setN b := by
  refine Nat.eq_of_testBit_eq fun i => ?_
  rw [Nat.testBit_xor, setN_bit, setN_bit, setN_bit]
  by_cases h : i < 25
  · rw [decide_eq_true h]
    by_cases h1 : (i : Int) ∈ a <;> by_cases h2 : (i : Int) ∈ b <;> simp [mem_sumL, h1, h2]
  · rw [decide_eq_false h]; rfl
theorem setN_inj {a b : List Int} {n : Nat} (hn : n ≤ 25) (ha : SS a) (hb : SS b) (ra : ∀ x ∈ a, x ∈ rng n) (rb : ∀ x ∈ b, x ∈ rng n) (h : setN a = setN b) : a = b := by
  rw [← members_setN hn ha ra, ← members_setN hn hb rb, h]
theorem setN_lt_n {a : List Int} {n : Nat} (ra : ∀ x ∈ a, x ∈ rng n) : setN a < 2 ^ n := by
  refine Nat.lt_pow_two_of_testBit _ fun i hi => ?_
  have z : ¬ (i : Int) ∈ a := fun z => by have := mem_rng.mp (ra _ z); omega
  rw [setN_bit, decide_eq_false z, Bool.and_false]
/-! ### the parity of a row of bits -/
def pb (p : Nat → Bool) : Nat → Bool
  | 0 => false
  | n + 1 => xor (pb p n) (p n)
theorem pb_xor (p q : Nat → Bool) : ∀ n, pb (fun i => xor (p i) (q i)) n = xor (pb p n) (pb q n)
  | 0 => rfl
  | n + 1 => by
    show xor (pb (fun i => xor (p i) (q i)) n) (xor (p n) (q n)) = xor (xor (pb p n) (p n)) (xor (pb q n) (q n))
    rw [pb_xor p q n]
    cases pb p n <;> cases pb q n <;> cases p n <;> cases q n <;> rfl
theorem pb_congr {p q : Nat → Bool} : ∀ {n}, (∀ i < n, p i = q i) → pb p n = pb q n
  | 0, _ => rfl
  | n + 1, h => by
    show xor (pb p n) (p n) = xor (pb q n) (q n)
    rw [pb_congr fun i hi => h i (by omega), h n (by omega)]
theorem pb_one (k : Nat) (c : Bool) : ∀ n, k < n → pb (fun i => decide (i = k) && c) n = c
  | 0, h => by omega
  | n + 1, h => by
    show xor (pb _ n) (decide (n = k) && c) = c
    by_cases e : n = k
    · subst e
      have z : pb (fun i => decide (i = n) && c) n = pb (fun _ => false) n := pb_congr fun i hi => by rw [decide_eq_false (by omega)]; rfl
      have z2 : ∀ m, pb (fun _ => false) m = false := fun m => by
        induction m with
        | zero => rfl
        | succ m ih => show xor (pb _ m) false = false; rw [ih]; rfl
      rw [z, z2, decide_eq_true rfl]
      cases c <;> rfl
    · rw [pb_one k c n (by omega), decide_eq_false e]
      cases c <;> rfl
theorem pb_zero (n : Nat) : pb (fun _ => false) n = false := by
  induction n with
  | zero => rfl
  | succ m ih => show xor (pb _ m) false = false; rw [ih]; rfl
/-- the parity of a number's bits -/
def parN (m : Nat) : Nat := (membersN m).length % 2
theorem count_pb (p : Nat → Bool) : ∀ n, ((rng n).filter fun i => p i.toNat).length % 2 = (pb p n).toNat
  | 0 => rfl
  | n + 1 => by
    have ih := count_pb p n
    have e : rng (n + 1) = rng n ++ [(n : Int)] := by
      unfold rng
      rw [List.range_succ, List.map_append]
      rfl
    rw [e, List.filter_append, List.length_append]
    show _ = (xor (pb p n) (p n)).toNat
    rw [List.filter_cons, Int.toNat_natCast, List.filter_nil]
    revert ih
    cases pb p n <;> cases p n <;> simp only [Bool.xor_false, Bool.xor_true, Bool.false_eq_true, if_false, if_true, List.length_nil, List.length_cons, Bool.toNat, cond, Bool.not_true, Bool.not_false] <;> omega
theorem pb_more (p : Nat → Bool) {n : Nat} : ∀ m, n ≤ m → (∀ i, n ≤ i → p i = false) → pb p m = pb p n
  | 0, h, _ => by have : n = 0 := by omega
                  subst this; rfl
  | m + 1, h, hp => by
    by_cases e : n = m + 1
    · subst e; rfl
    · show xor (pb p m) (p m) = _
      rw [pb_more p m (by omega) hp, hp m (by omega), Bool.xor_false]
theorem parN_pb {m N : Nat} (h : m < 2 ^ N) : parN m = (pb m.testBit N).toNat := by
  unfold parN membersN
  rw [count_pb, pb_more m.testBit N (bits_le h) fun i hi => ?_]
  cases z : m.testBit i with
  | false => rfl
  | true => have := tb_bits z; omega
/-- the scalar product of two rows -/
def dot (r x : Nat) : Bool := pb (fun i => r.testBit i && x.testBit i) 25
theorem parN_and {r x : Nat} (h : r < 2 ^ 25) : parN (r &&& x) = (dot r x).toNat := by
  rw [parN_pb (N := 25) (by rw [Nat.and_comm]; exact Nat.and_lt_two_pow _ h)]
  unfold dot
  rw [pb_congr fun i _ => Nat.testBit_and r x i]
theorem dot_xor (r s x : Nat) : dot (r ^^^ s) x = xor (dot r x) (dot s x) := by
  unfold dot
  rw [← pb_xor]
  exact pb_congr fun i _ => by
    rw [Nat.testBit_xor]
    cases r.testBit i <;> cases s.testBit i <;> cases x.testBit i <;> rfl
theorem dot_zero (x : Nat) : dot 0 x = false := by
  unfold dot
  rw [pb_congr (q := fun _ => false) fun i _ => by rw [Nat.zero_testBit]; rfl, pb_zero]
/-- a bit more in x -/
theorem dot_add {r x v : Nat} (hx : x < 2 ^ v) (hv : v < 25) : dot r (x + 2 ^ v) = xor (dot r x) (r.testBit v) := by
  unfold dot
  rw [← pb_one v (r.testBit v) 25 hv, ← pb_xor]
  refine pb_congr fun i _ => ?_
  rw [Nat.add_comm]
  rcases Nat.lt_trichotomy i v with h | h | h
  · rw [Nat.testBit_two_pow_add_gt h, decide_eq_false (by omega)]; simp
  · subst h
    rw [Nat.testBit_two_pow_add_eq, Nat.testBit_lt_two_pow hx]; simp
  · rw [Nat.testBit_lt_two_pow (Nat.lt_of_lt_of_le (show 2 ^ v + x < 2 ^ (v + 1) by rw [Nat.pow_succ]; omega) (Nat.pow_le_pow_right (by decide) h)), Nat.testBit_lt_two_pow (Nat.lt_of_lt_of_le hx (Nat.pow_le_pow_right (by decide) (by omega))), decide_eq_false (by omega)]; simp
theorem dot_high {r x v : Nat} (hr : r < 2 ^ v) : ∀ y, (∀ i < v, x.testBit i = y.testBit i) → dot r x = dot r y := fun y h => by
  unfold dot
  refine pb_congr fun i _ => ?_
  by_cases z : i < v
  · rw [h i z]
  · rw [Nat.testBit_lt_two_pow (Nat.lt_of_lt_of_le hr (Nat.pow_le_pow_right (by decide) (by omega)))]; rfl
theorem log2_xor {a b : Nat} (ha : a ≠ 0) (hb : b ≠ 0) (h : a.log2 = b.log2) : a ^^^ b < 2 ^ a.log2 := by
  refine Nat.lt_pow_two_of_testBit _ fun i hi => ?_
  rw [Nat.testBit_xor]
  rcases Nat.lt_or_ge a.log2 i with z | z
  · have h1 : a.testBit i = false := Nat.testBit_lt_two_pow (Nat.lt_of_lt_of_le Nat.lt_log2_self (Nat.pow_le_pow_right (by decide) z))
    have h2 : b.testBit i = false := Nat.testBit_lt_two_pow (Nat.lt_of_lt_of_le Nat.lt_log2_self (Nat.pow_le_pow_right (by decide) (by omega)))
    rw [h1, h2]; rfl
  · have e : i = a.log2 := by omega
    subst e
    have h1 := Nat.testBit_log2 ha
    have h2 := Nat.testBit_log2 hb
    rw [← h] at h2
    rw [h1, h2]; rfl
theorem log2_lt_of {a n : Nat} (ha : a ≠ 0) (h : a < 2 ^ n) : a.log2 < n := (Nat.log2_lt ha).mpr h
theorem log2_eq_of {a i : Nat} (h1 : a.testBit i = true) (h2 : ∀ j, i < j → a.testBit j = false) : a ≠ 0 ∧ a.log2 = i := by
  have ha : a ≠ 0 := fun z => by subst z; rw [Nat.zero_testBit] at h1; cases h1
  refine ⟨ha, ?_⟩
  have h3 := Nat.testBit_log2 ha
  rcases Nat.lt_trichotomy a.log2 i with z | z | z
  · have := Nat.ge_two_pow_of_testBit h1
    have := (Nat.log2_lt ha).mp z
    omega
  · exact z
  · rw [h2 _ z] at h3; cases h3
theorem log2_xor_ne {a b : Nat} (ha : a ≠ 0) (hb : b ≠ 0) (h : a.log2 ≠ b.log2) : a ^^^ b ≠ 0 ∧ (a ^^^ b).log2 = max a.log2 b.log2 := by
  have hi : ∀ c i : Nat, c.log2 < i → c.testBit i = false := fun c i z => Nat.testBit_lt_two_pow (Nat.lt_of_lt_of_le Nat.lt_log2_self (Nat.pow_le_pow_right (by decide) z))
  refine log2_eq_of ?_ fun j hj => ?_
  · rw [Nat.testBit_xor]
    rcases Nat.lt_or_ge a.log2 b.log2 with z | z
    · rw [Nat.max_eq_right (by omega), Nat.testBit_log2 hb, hi a _ z]; rfl
    · rw [Nat.max_eq_left z, Nat.testBit_log2 ha, hi b _ (by omega)]; rfl
  · rw [Nat.testBit_xor, hi a j (by omega), hi b j (by omega)]; rfl
end Eng

end
section
set_option Elab.async false
set_option linter.all false
set_option maxRecDepth 100000
set_option maxHeartbeats 16000000
set_option autoImplicit false
/-! Eng, part Q: equations over two: elimination, by its text. -/
namespace Eng
open PySem PySem.Spec PyProof.Rows L2

/-! ### more steps -/
section
variable {cl : Calls} {gl : List D} {ρ ρ' ρ1 : Eng.Env} {st st1 st2 st3 : Sta} {ss sa sb : Ss} {i j : Nat} {e a b c k : E} {d d1 d2 x y z : D} {r : R Fl} {o t : Bool}
theorem e_din {yes : Bool} (h1 : ev cl gl ρ false a st = .ok x st1) (h2 : ev cl gl ρ true b st1 = .ok y st2) (h3 : dinD x y = some t) : ev cl gl ρ o (.din yes a b) st = .ok (.bool (t == yes)) st2 := by
  simp only [ev, h1, h2, R.bind_ok, h3, Option.map_some, R.of_some]
theorem e_dget (h1 : ev cl gl ρ true b st = .ok x st1) (h2 : ev cl gl ρ false a st1 = .ok y st2) (h3 : dgetD x y = some z) : ev cl gl ρ o (.dget b a) st = .ok z st2 := by
  simp only [ev, h1, h2, R.bind_ok, h3, R.of_some]
theorem x_par (h1 : ev cl gl ρ false a st = .ok x st1) (h2 : ev cl gl ρ false b st1 = .ok y st2) (hi : i < ρ.length ∧ j < ρ.length) (h3 : execs cl gl ss ((ρ.set i (.val x)).set j (.val y)) st2 = r) : execs cl gl (.cons (.par i j a b) ss) ρ st = r := by
  simp only [execs, exec, h1, h2, R.bind_ok, hi, and_self, if_true, h3]
theorem x_dput {kds : List (Key × D)} {key : Key} (hρ : ρ[i]? = some (.dic kds)) (h1 : ev cl gl ρ false e st = .ok d st1) (h2 : ev cl gl ρ false k st1 = .ok x st2) (hk : keyD x = some key) (hl : kds.length < sizeLine) (h3 : execs cl gl ss (ρ.set i (.dic (putD kds key d))) st2 = r) : execs cl gl (.cons (.dput i k e) ss) ρ st = r := by
  simp only [execs, exec, hρ, h1, h2, R.bind_ok, hk, hl, if_true, h3]
theorem x_forR {tg : Tg} {it : It} {xs : List D} {sb : Ss} (h1 : evIt cl gl ρ false it st = .ok xs st1) (h2 : forRun tg (execs cl gl sb) xs ρ st1 = .ok (.ret d) st2) : execs cl gl (.cons (.for tg it sb) ss) ρ st = .ok (.ret d) st2 := by
  simp only [execs, exec, h1, R.bind_ok, h2]
theorem it_seq {xs : List D} (h : ev cl gl ρ o e st = .ok x st1) (hx : seqD x = some xs) : evIt cl gl ρ o (.seq e) st = .ok xs st1 := by simp only [evIt, h, R.bind_ok, hx, R.of_some]
theorem for_mapR {α : Type} {tg : Tg} {body : Eng.Env → Sta → R Fl} {φ : α → D} {xs : List α} (Q : D → Sta → Prop) (I : List α → List α → Eng.Env → Sta → Prop) (h0 : I [] xs ρ st)
    (step : ∀ (ys : List α) (x : α) (zs : List α) (ρ : Eng.Env) (st : Sta), xs = ys ++ x :: zs → I ys (x :: zs) ρ st → ∃ ρ1, bindTg tg (φ x) ρ = some ρ1 ∧ ((∃ ρ' st', (body ρ1 st = .ok (.nx ρ') st' ∨ body ρ1 st = .ok (.ct ρ') st') ∧ I (ys ++ [x]) zs ρ' st') ∨ ∃ d st', body ρ1 st = .ok (.ret d) st' ∧ Q d st')) :
    (∃ ρ' st', forRun tg body (xs.map φ) ρ st = .ok (.nx ρ') st' ∧ I xs [] ρ' st') ∨ ∃ d st', forRun tg body (xs.map φ) ρ st = .ok (.ret d) st' ∧ Q d st' := by
  have key : ∀ (zs ys : List α) (ρ : Eng.Env) (st : Sta), xs = ys ++ zs → I ys zs ρ st → (∃ ρ' st', forRun tg body (zs.map φ) ρ st = .ok (.nx ρ') st' ∧ I xs [] ρ' st') ∨ ∃ d st', forRun tg body (zs.map φ) ρ st = .ok (.ret d) st' ∧ Q d st' := by
    intro zs
    induction zs with
    | nil => exact fun ys ρ st e h => .inl ⟨ρ, st, rfl, by rw [e, List.append_nil]; exact h⟩
    | cons z zs ih =>
      intro ys ρ st e h
      obtain ⟨ρ1, hb, ⟨ρ', st', hx, hi⟩ | ⟨d, st', hx, hq⟩⟩ := step ys z zs ρ st e h
      · have ih := ih (ys ++ [z]) ρ' st' (by rw [e]; simp) hi
        have e2 : forRun tg body ((z :: zs).map φ) ρ st = forRun tg body (zs.map φ) ρ' st' := by
          simp only [List.map_cons, forRun, hb]
          rcases hx with hx | hx
          · rw [hx]; rfl
          · rw [hx]; rfl
        rw [e2]
        exact ih
      · refine .inr ⟨d, st', ?_, hq⟩
        simp only [List.map_cons, forRun, hb, hx, R.bind_ok]
  exact key xs [] ρ st rfl h0
/-- a while, by what it makes smaller -/
theorem whl_inv {test : Eng.Env → Sta → R Bool} {body : Eng.Env → Sta → R Fl} (I : Nat → Eng.Env → Sta → Prop) (Q : Eng.Env → Sta → Prop)
    (step : ∀ m ρ st, I m ρ st → (∃ st1, test ρ st = .ok false st1 ∧ Q ρ st1) ∨ ∃ st1, test ρ st = .ok true st1 ∧ ∃ ρ' st' m', body ρ st1 = .ok (.nx ρ') st' ∧ m' < m ∧ I m' ρ' st') :
    ∀ (fuel m : Nat) (ρ : Eng.Env) (st : Sta), m < fuel → I m ρ st → ∃ ρ' st', whlRun test body fuel ρ st = .ok (.nx ρ') st' ∧ Q ρ' st'
  | 0, m, _, _, h, _ => by omega
  | fuel + 1, m, ρ, st, h, hi => by
    rcases step m ρ st hi with ⟨st1, h1, hq⟩ | ⟨st1, h1, ρ', st', m', h2, h3, h4⟩
    · refine ⟨ρ, st1, ?_, hq⟩
      simp only [whlRun, h1, R.bind_ok]
      rfl
    · obtain ⟨ρ2, st2, e, q⟩ := whl_inv I Q step fuel m' ρ' st' (by omega) h4
      refine ⟨ρ2, st2, ?_, q⟩
      simp only [whlRun, h1, R.bind_ok, if_true, h2]
      exact e
theorem x_whlI {m : Nat} (I : Nat → Eng.Env → Sta → Prop) (Q : Eng.Env → Sta → Prop) (hm : m < 2 ^ 60) (h0 : I m ρ st)
    (step : ∀ m ρ st, I m ρ st → (∃ st1, tst cl gl c ρ st = .ok false st1 ∧ Q ρ st1) ∨ ∃ st1, tst cl gl c ρ st = .ok true st1 ∧ ∃ ρ' st' m', execs cl gl sa ρ st1 = .ok (.nx ρ') st' ∧ m' < m ∧ I m' ρ' st') :
    ∃ ρ' st', Q ρ' st' ∧ ∀ ss, execs cl gl (.cons (.whl c sa) ss) ρ st = execs cl gl ss ρ' st' := by
  have hw : m < wf := by
    rw [wf_eq]
    exact Nat.lt_of_lt_of_le hm (Nat.pow_le_pow_right (by decide) (by decide))
  obtain ⟨ρ', st', e, q⟩ := whl_inv I Q step wf m ρ st hw h0
  refine ⟨ρ', st', q, fun ss => ?_⟩
  simp only [execs, exec, R.bind_ok, e]
theorem x_iteFR (h1 : ev cl gl ρ false c st = .ok (.bool false) st1) (h2 : execs cl gl sb ρ st1 = .ok (.ret d) st2) : execs cl gl (.cons (.ite c sa sb) ss) ρ st = .ok (.ret d) st2 := by
  simp only [execs, exec, tst, h1, R.bind_ok, Bool.false_eq_true, if_false, h2]
theorem t_of {k : Bool} (h : ev cl gl ρ false c st = .ok (.bool k) st1) : tst cl gl c ρ st = .ok k st1 := by
  simp only [tst, h, R.bind_ok]
end

/-! ### a basis -/
abbrev Bas := List (Nat × Nat × Nat)
def basD (B : Bas) : List (Key × D) := B.map fun e => (.inl (e.1 : Int), .tuple [.int e.2.1, .int e.2.2])
def look (B : Bas) (k : Nat) : Option (Nat × Nat) := (B.find? fun e => decide (e.1 = k)).map (·.2)
def prD (p : Nat × Nat) : D := .tuple [.int p.1, .int p.2]
theorem look_val (k : Nat) : ∀ B : Bas, valK (basD B) (.inl (k : Int)) = (look B k).map prD
  | [] => rfl
  | e :: B => by
    have ih := look_val k B
    unfold valK look basD at *
    rw [List.map_cons, List.find?_cons, List.find?_cons]
    by_cases h : e.1 = k
    · rw [decide_eq_true h, decide_eq_true (show (Sum.inl (e.1 : Int) : Key) = .inl (k : Int) by rw [h])]
      rfl
    · rw [decide_eq_false h, decide_eq_false (show ¬ (Sum.inl (e.1 : Int) : Key) = .inl (k : Int) from fun z => h (by injection z with z; omega))]
      exact ih
theorem look_din (k : Nat) (B : Bas) : dinD (.int k) (dictD (basD B)) = some (look B k).isSome := by
  show (match keyD (.int k), dKvs ((basD B).map kvD) with | some k, some kvs => some (valK kvs k).isSome | _, _ => none) = _
  rw [dKvs_of]
  show some (valK (basD B) (.inl (k : Int))).isSome = _
  rw [look_val]
  cases look B k <;> rfl
theorem look_get {k : Nat} {B : Bas} {p : Nat × Nat} (h : look B k = some p) : dgetD (dictD (basD B)) (.int k) = some (prD p) := by
  show (match keyD (.int k), dKvs ((basD B).map kvD) with | some k, some kvs => valK kvs k | _, _ => none) = _
  rw [dKvs_of]
  show valK (basD B) (.inl (k : Int)) = _
  rw [look_val, h]
  rfl
theorem look_mem {k : Nat} {B : Bas} {p : Nat × Nat} (h : look B k = some p) : (k, p) ∈ B := by
  unfold look at h
  cases q : B.find? fun e => decide (e.1 = k) with
  | none => rw [q] at h; cases h
  | some e =>
    rw [q] at h
    have h1 := List.mem_of_find?_eq_some q
    have h2 := List.find?_some q
    have h3 := of_decide_eq_true h2
    cases h
    obtain ⟨a, b, c⟩ := e
    simp only at h3
    subst h3
    exact h1
theorem look_none {k : Nat} {B : Bas} (h : look B k = none) : ∀ e ∈ B, e.1 ≠ k := by
  unfold look at h
  rw [Option.map_eq_none_iff, List.find?_eq_none] at h
  exact fun e he => by simpa using h e he
theorem look_of {k : Nat} {p : Nat × Nat} : ∀ {B : Bas}, (B.map (·.1)).Nodup → (k, p) ∈ B → look B k = some p
  | [], _, h => by cases h
  | e :: B, nd, h => by
    unfold look
    rw [List.find?_cons]
    rw [List.map_cons] at nd
    obtain ⟨n1, n2⟩ := List.nodup_cons.mp nd
    rcases List.mem_cons.mp h with h | h
    · subst h
      rw [decide_eq_true rfl]
      rfl
    · have ne : ¬ e.1 = k := fun z => n1 (by rw [z]; exact List.mem_map.mpr ⟨_, h, rfl⟩)
      rw [decide_eq_false ne]
      exact look_of n2 h
structure BasOk (n : Nat) (B : Bas) : Prop where
  nd : (B.map (·.1)).Nodup
  ok : ∀ e ∈ B, e.2.1 ≠ 0 ∧ e.2.1 < 2 ^ n ∧ e.2.1.log2 = e.1 ∧ e.2.2 < 2
theorem BasOk.put {n : Nat} {B : Bas} (O : BasOk n B) {r b : Nat} (h0 : r ≠ 0) (h1 : r < 2 ^ n) (hb : b < 2) (h2 : look B r.log2 = none) : BasOk n (B ++ [(r.log2, r, b)]) ∧ putD (basD B) (.inl (r.log2 : Int)) (prD (r, b)) = basD (B ++ [(r.log2, r, b)]) := by
  have hn := look_none h2
  refine ⟨⟨?_, fun e he => ?_⟩, ?_⟩
  · rw [List.map_append]
    refine List.nodup_append.mpr ⟨O.nd, by simp, fun a ha b hb z => ?_⟩
    obtain ⟨e, he, rfl⟩ := List.mem_map.mp ha
    simp only [List.map_cons, List.map_nil, List.mem_singleton] at hb
    exact hn e he (z.trans hb)
  · rcases List.mem_append.mp he with z | z
    · exact O.ok e z
    · rw [List.mem_singleton.mp z]
      exact ⟨h0, h1, rfl, hb⟩
  · unfold putD
    rw [if_neg]
    · unfold basD
      rw [List.map_append]
      rfl
    · intro z
      rw [List.any_eq_true] at z
      obtain ⟨kv, h3, h4⟩ := z
      obtain ⟨e, he, rfl⟩ := List.mem_map.mp h3
      have h5 := of_decide_eq_true h4
      injection h5 with h5
      exact hn e he (by omega)

/-! ### reduced -/
def bReduced : Ss :=
 (.cons (.whl (.and (.cmp .gt (.var 1) (.const (.int 0))) (.din true (.bin .sub (.bits (.var 1)) (.const (.int 1))) (.var 0)))
 (.cons (.asg (.tup (.cons (.name 3) (.cons (.name 4) .nil))) (.dget (.var 0) (.bin .sub (.bits (.var 1)) (.const (.int 1))))) (.cons (.par 1 2 (.bin .bxor (.var 1) (.var 3)) (.bin .bxor (.var 2) (.var 4))) .nil)))
 (.cons (.ret (.tup (.cons (.var 1) (.cons (.var 2) .nil)))) .nil))
def Reach (B : Bas) (r b r' b' : Nat) : Prop := ∀ P : Nat → Nat → Prop, (∀ e ∈ B, ∀ u v, P u v → P (u ^^^ e.2.1) (v ^^^ e.2.2)) → P r b → P r' b'
section
variable {cl : Calls} {gl : List D} {st : Sta} {n : Nat} {B : Bas}
theorem xor_lt2 {a b : Nat} (ha : a < 2) (hb : b < 2) : a ^^^ b < 2 := Nat.xor_lt_two_pow (n := 1) ha hb
theorem top_ev {ρ : Eng.Env} {r i : Nat} (h : ρ[i]? = some (.val (.int r))) (h0 : r ≠ 0) {o : Bool} : ev cl gl ρ o (.bin .sub (.bits (.var i)) (.const (.int 1))) st = .ok (.int (r.log2 : Nat)) st := by
  refine e_bin (e_bits (e_var h)) e_con ?_
  rw [subD]
  unfold bitsN
  rw [if_neg h0]
  congr 2
  omega
theorem q_reduced (O : BasOk n B) (hn : n ≤ 50) {r b : Nat} (hr : r < 2 ^ n) (hb : b < 2) : ∃ r' b', execs cl gl bReduced [.val (dictD (basD B)), .val (.int r), .val (.int b), .emp, .emp] st = .ok (.ret (prD (r', b'))) st ∧ r' < 2 ^ n ∧ b' < 2 ∧ (r' ≠ 0 → look B r'.log2 = none) ∧ Reach B r b r' b' := by
  obtain ⟨ρ', st', ⟨rfl, r', b', s3, s4, rfl, h1, h2, h3, h4⟩, e⟩ := x_whlI (cl := cl) (gl := gl) (st := st) (c := .and (.cmp .gt (.var 1) (.const (.int 0))) (.din true (.bin .sub (.bits (.var 1)) (.const (.int 1))) (.var 0)))
    (sa := (.cons (.asg (.tup (.cons (.name 3) (.cons (.name 4) .nil))) (.dget (.var 0) (.bin .sub (.bits (.var 1)) (.const (.int 1))))) (.cons (.par 1 2 (.bin .bxor (.var 1) (.var 3)) (.bin .bxor (.var 2) (.var 4))) .nil)))
    (ρ := [.val (dictD (basD B)), .val (.int r), .val (.int b), .emp, .emp]) (m := r)
    (fun m ρ s => s = st ∧ ∃ (b' : Nat) (s3 s4 : Slot), ρ = [.val (dictD (basD B)), .val (.int (m : Nat)), .val (.int (b' : Nat)), s3, s4] ∧ m < 2 ^ n ∧ b' < 2 ∧ Reach B r b m b')
    (fun ρ s => s = st ∧ ∃ (r' b' : Nat) (s3 s4 : Slot), ρ = [.val (dictD (basD B)), .val (.int (r' : Nat)), .val (.int (b' : Nat)), s3, s4] ∧ r' < 2 ^ n ∧ b' < 2 ∧ (r' ≠ 0 → look B r'.log2 = none) ∧ Reach B r b r' b')
    (Nat.lt_of_lt_of_le hr (Nat.pow_le_pow_right (by decide) (by omega))) ⟨rfl, b, _, _, rfl, hr, hb, fun P _ h => h⟩ (fun m ρ s h => by
      obtain ⟨rfl, b', s3, s4, rfl, h1, h2, h3⟩ := h
      by_cases h0 : m = 0
      · subst h0
        exact .inl ⟨s, t_of (e_andF (e_cmp e_var e_con (c_gt _ _))), rfl, 0, b', s3, s4, rfl, h1, h2, fun z => absurd rfl z, h3⟩
      · have t1 : ev cl gl [.val (dictD (basD B)), .val (.int (m : Nat)), .val (.int (b' : Nat)), s3, s4] false (.cmp .gt (.var 1) (.const (.int 0))) s = .ok (.bool true) s := e_cmp e_var e_con (by rw [c_gt, decide_eq_true (by omega)])
        have t2 : ev cl gl [.val (dictD (basD B)), .val (.int (m : Nat)), .val (.int (b' : Nat)), s3, s4] false (.din true (.bin .sub (.bits (.var 1)) (.const (.int 1))) (.var 0)) s = .ok (.bool ((look B m.log2).isSome == true)) s := e_din (top_ev rfl h0) e_var (look_din _ _)
        cases q : look B m.log2 with
        | none =>
          rw [q] at t2
          exact .inl ⟨s, t_of (e_and t1 t2), rfl, m, b', s3, s4, rfl, h1, h2, fun _ => q, h3⟩
        | some p =>
          rw [q] at t2
          obtain ⟨r1, b1⟩ := p
          have hm := look_mem q
          obtain ⟨o1, o2, o3, o4⟩ := O.ok _ hm
          simp only at o1 o2 o3 o4
          refine .inr ⟨s, t_of (e_and t1 t2), [.val (dictD (basD B)), .val (.int ((m ^^^ r1 : Nat) : Int)), .val (.int ((b' ^^^ b1 : Nat) : Int)), .val (.int r1), .val (.int b1)], s, m ^^^ r1, ?_, ?_, rfl, b' ^^^ b1, _, _, rfl, Nat.xor_lt_two_pow h1 o2, xor_lt2 h2 o4, fun P hP h => hP _ hm _ _ (h3 P hP h)⟩
          · refine x_asg (e_dget e_var (top_ev rfl h0) (look_get q)) rfl ?_
            exact x_par (e_bin e_var e_var (xorD _ _)) (e_bin e_var e_var (xorD _ _)) ⟨Nat.le_of_ble_eq_true rfl, Nat.le_of_ble_eq_true rfl⟩ x_nil
          · exact Nat.lt_of_lt_of_le (log2_xor h0 o1 o3.symm) (Nat.log2_self_le h0))
  refine ⟨r', b', ?_, h1, h2, h3, h4⟩
  unfold bReduced
  rw [e]
  exact x_ret (e_tup (es_cons e_var (es_cons e_var es_nil)) (szl (by show 2 ≤ 1000000; omega)))
end
end Eng

end
section
set_option Elab.async false
set_option linter.all false
set_option maxRecDepth 100000
set_option maxHeartbeats 16000000
set_option autoImplicit false
/-! Eng, part R: solutions, ranks; the texts of everybranch.linear. -/
namespace Eng
open PySem PySem.Spec PyProof.Rows L2

def bMaskOf : Ss := (.cons (.ret (.bi .sum (.comp [("member", 1)] (.name 1) (.seq (.var 0)) .none (.bin .shl (.const (.int 1)) (.var 1))))) .nil)
def bMembers : Ss := (.cons (.ret (.bi .tuple (.comp [("member", 1)] (.name 1) (.rng1 (.bits (.var 0))) (.some (.cmp .eq (.bin .mod (.bin .shr (.var 0) (.var 1)) (.const (.int 2))) (.const (.int 1)))) (.var 1)))) .nil)
def bParity (im : Nat) : Ss := (.cons (.ret (.bin .mod (.bi .len (.call im (.cons (.var 0) .nil))) (.const (.int 2)))) .nil)
def bFirst (ir ip : Nat) : Ss :=
 (.cons (.newD 2) (.cons (.for (.tup (.cons (.name 5) (.cons (.name 6) .nil))) (.seq (.var 0))
 (.cons (.asg (.tup (.cons (.name 5) (.cons (.name 6) .nil))) (.call ir (.cons (.bor 2) (.cons (.var 5) (.cons (.var 6) .nil))))) (.cons (.ite (.cmp .gt (.var 5) (.const (.int 0)))
 (.cons (.dput 2 (.bin .sub (.bits (.var 5)) (.const (.int 1))) (.tup (.cons (.var 5) (.cons (.var 6) .nil)))) .nil)
 (.cons (.ite (.cmp .eq (.var 6) (.const (.int 1)))
 (.cons (.ret (.const .none)) .nil)
 .nil)
 .nil))
 .nil)))
 (.cons (.set 3 (.const (.int 0))) (.cons (.for (.name 4) (.rng1 (.var 1))
 (.cons (.ite (.din true (.var 4) (.bor 2))
 (.cons (.asg (.tup (.cons (.name 5) (.cons (.name 6) .nil))) (.dget (.bor 2) (.var 4))) (.cons (.ite (.cmp .ne (.call ip (.cons (.bin .band (.var 5) (.var 3)) .nil)) (.var 6))
 (.cons (.set 3 (.bin .add (.var 3) (.bin .shl (.const (.int 1)) (.var 4)))) .nil)
 .nil)
 .nil))
 .nil)
 .nil))
 (.cons (.ret (.var 3)) .nil)))))
def bRank (ir : Nat) : Ss :=
 (.cons (.newD 1) (.cons (.for (.name 2) (.seq (.var 0))
 (.cons (.asg (.tup (.cons (.name 2) (.cons (.name 3) .nil))) (.call ir (.cons (.bor 1) (.cons (.var 2) (.cons (.const (.int 0)) .nil))))) (.cons (.ite (.cmp .gt (.var 2) (.const (.int 0)))
 (.cons (.dput 1 (.bin .sub (.bits (.var 2)) (.const (.int 1))) (.tup (.cons (.var 2) (.cons (.const (.int 0)) .nil)))) .nil)
 .nil)
 .nil)))
 (.cons (.ret (.bi .len (.bor 1))) .nil)))
section
variable {cl : Calls} {gl : List D} {st : Sta} {n : Nat} {B : Bas}
/-! ### sets and masks -/
theorem sum_mask (p : Nat → Bool) : ∀ n, (((rng n).filter fun i => p i.toNat).map fun i => ((2 ^ i.toNat : Nat) : Int)).sum = (maskB p n : Nat)
  | 0 => rfl
  | n + 1 => by
    have ih := sum_mask p n
    have e : rng (n + 1) = rng n ++ [(n : Int)] := by
      unfold rng
      rw [List.range_succ, List.map_append]
      rfl
    rw [e, List.filter_append, List.map_append, List.sum_append, ih]
    show _ = ((maskB p n + if p n then 2 ^ n else 0 : Nat) : Int)
    cases h : p n with
    | true => simp [h]
    | false => simp [h]
theorem sum_setN {l : List Int} {n : Nat} (hn : n ≤ 25) (hs : SS l) (hr : ∀ x ∈ l, x ∈ rng n) : (l.map fun i => ((2 ^ i.toNat : Nat) : Int)).sum = (setN l : Nat) := by
  have e : l = (rng 25).filter fun i => (fun j : Nat => decide ((j : Int) ∈ l)) i.toNat := ss_ext hs ((ss_rng 25).filter _) fun x => by
    rw [List.mem_filter, mem_rng, decide_eq_true_eq]
    constructor
    · intro h
      have := mem_rng.mp (hr x h)
      refine ⟨by omega, ?_⟩
      rw [show ((x.toNat : Nat) : Int) = x by omega]
      exact h
    · rintro ⟨h1, h2⟩
      rw [show ((x.toNat : Nat) : Int) = x by omega] at h2
      exact h2
  have e2 := sum_mask (fun j : Nat => decide ((j : Int) ∈ l)) 25
  rw [← e] at e2
  exact e2
theorem q_maskof {l : List Int} (hn : n ≤ 25) (hs : SS l) (hr : ∀ x ∈ l, x ∈ rng n) {d : D} (hd : seqD d = some (l.map .int)) : execs cl gl bMaskOf [.val d, .emp] st = .ok (.ret (.int (setN l : Nat))) st := by
  have ll : l.length ≤ 25 := Nat.le_trans (by
    have e : l = (rng n).filter fun x => decide (x ∈ l) := ss_ext hs ((ss_rng n).filter _) fun x => by
      rw [List.mem_filter, decide_eq_true_eq]
      exact ⟨fun z => ⟨hr x z, z⟩, fun z => z.2⟩
    rw [e]
    exact Nat.le_trans (List.length_filter_le ..) (by rw [rng_len]; exact Nat.le_refl _)) hn
  refine x_ret (e_bi (e_comp (φ := .int) (xs := l) (fun _ => true) (fun i => .int ((2 ^ i.toNat : Nat) : Int)) (it_seq e_var hd) (fun x hx => ⟨[.val d, .val (.int x)], rfl, i_none, fun _ => ?_⟩) (szl (by omega))) ?_)
  · have h1 := mem_rng.mp (hr x hx)
    refine e_bin e_con e_var ?_
    have h2 := shlD 1 x.toNat (by omega) (by omega)
    rw [show ((x.toNat : Nat) : Int) = x by omega] at h2
    rw [Nat.one_mul] at h2
    exact h2
  · rw [List.filter_eq_self.mpr (fun _ _ => rfl), map_map, sumD, sum_setN hn hs hr]
theorem q_members {m : Nat} (hm : m < 2 ^ 1000) : execs cl gl bMembers [.val (.int m), .emp] st = .ok (.ret (.tuple ((membersN m).map .int))) st := by
  have hb := bits_le hm
  refine x_ret (e_bi (e_comp (φ := .int) (xs := rng (bitsN m)) (fun i => m.testBit i.toNat) .int (evIt_rng1 (e_bits e_var) (low (by omega))) (fun x hx => ⟨[.val (.int m), .val (.int x)], rfl, i_some ?_, fun _ => e_var⟩) (by rw [rng_len]; exact szl (by omega))) rfl)
  have h1 := mem_rng.mp hx
  have h2 := shrD m x.toNat
  rw [show ((x.toNat : Nat) : Int) = x by omega] at h2
  refine e_cmp (e_bin (e_bin e_var e_var h2) e_con (modD2 _ 2 (by decide))) e_con ?_
  rw [c_eq, Nat.testBit_eq_decide_div_mod_eq]
  congr 1
  by_cases z : m / 2 ^ x.toNat % 2 = 1
  · rw [decide_eq_true z, decide_eq_true (by omega)]
  · rw [decide_eq_false z, decide_eq_false (by omega)]
theorem q_parity {im m : Nat} (h : ∀ st, cl im [.int m] st = .ok (.tuple ((membersN m).map .int)) st) : execs cl gl (bParity im) [.val (.int m)] st = .ok (.ret (.int (parN m : Nat))) st := by
  refine x_ret (e_bin (e_bi (z := .int ((membersN m).length : Nat)) (e_call (ea_cons e_var ea_nil) (h _)) (by simp only [biD, List.length_map])) e_con (modD2 _ 2 (by decide)))
/-! ### solutions -/
def Sol (rows : List (Nat × Nat)) (x : Nat) : Prop := ∀ p ∈ rows, dot p.1 x = decide (p.2 = 1)
def SolB (B : Bas) (x : Nat) : Prop := ∀ e ∈ B, dot e.2.1 x = decide (e.2.2 = 1)
theorem dec_xor {a b : Nat} (ha : a < 2) (hb : b < 2) : decide (a ^^^ b = 1) = xor (decide (a = 1)) (decide (b = 1)) := by
  rcases (show a = 0 ∨ a = 1 by omega) with rfl | rfl <;> rcases (show b = 0 ∨ b = 1 by omega) with rfl | rfl <;> rfl
/-- a row, and what is left of it, ask the same of what the basis allows -/
theorem reach_sol (O : BasOk n B) {r b r' b' : Nat} (hb : b < 2) (h : Reach B r b r' b') {x : Nat} (hx : SolB B x) : dot r' x = decide (b' = 1) ↔ dot r x = decide (b = 1) :=
  (h (fun u v => v < 2 ∧ (dot u x = decide (v = 1) ↔ dot r x = decide (b = 1))) (fun e he u v ⟨h1, h2⟩ => by
    have h3 := (O.ok e he).2.2.2
    refine ⟨xor_lt2 h1 h3, ?_⟩
    rw [dot_xor, dec_xor h1 h3, hx e he, ← h2]
    generalize decide (e.2.2 = 1) = c
    generalize decide (v = 1) = c2
    cases dot u x <;> cases c <;> cases c2 <;> simp) ⟨hb, Iff.rfl⟩).2
/-- the first solution of a basis -/
structure FirstB (n : Nat) (B : Bas) (v t : Nat) : Prop where
  lt : t < 2 ^ v
  sol : ∀ e ∈ B, e.1 < v → dot e.2.1 t = decide (e.2.2 = 1)
  fr : ∀ i < v, look B i = none → t.testBit i = false
theorem first_low (O : BasOk n B) {t y : Nat} (hn : n ≤ 24) (F : FirstB n B n t) (hy : y < 2 ^ n) (hs : SolB B y) (ne : y ≠ t) : ∃ i < n, (∀ j < i, t.testBit j = y.testBit j) ∧ t.testBit i = false ∧ y.testBit i = true := by
  -- the lowest bit that differs
  obtain ⟨i0, h0⟩ := Nat.exists_testBit_ne_of_ne ne
  have hex : ∃ i, y.testBit i ≠ t.testBit i := ⟨i0, h0⟩
  have key : ∀ k, (∀ j < k, t.testBit j = y.testBit j) ∨ ∃ i, (∀ j < i, t.testBit j = y.testBit j) ∧ y.testBit i ≠ t.testBit i := fun k => by
    induction k with
    | zero => exact .inl fun j hj => by omega
    | succ k ih =>
      rcases ih with ih | ih
      · by_cases z : t.testBit k = y.testBit k
        · refine .inl fun j hj => ?_
          rcases Nat.lt_or_ge j k with w | w
          · exact ih j w
          · have : j = k := by omega
            subst this; exact z
        · exact .inr ⟨k, ih, fun w => z w.symm⟩
      · exact .inr ih
  obtain ⟨i, h1, h2⟩ : ∃ i, (∀ j < i, t.testBit j = y.testBit j) ∧ y.testBit i ≠ t.testBit i := by
    rcases key (i0 + 1) with z | z
    · exact absurd (z i0 (by omega)).symm h0
    · exact z
  have hi : i < n := by
    rcases Nat.lt_or_ge i n with z | z
    · exact z
    · rw [Nat.testBit_lt_two_pow (Nat.lt_of_lt_of_le hy (Nat.pow_le_pow_right (by decide) z)), Nat.testBit_lt_two_pow (Nat.lt_of_lt_of_le F.lt (Nat.pow_le_pow_right (by decide) z))] at h2
      exact absurd rfl h2
  refine ⟨i, hi, h1, ?_⟩
  cases q : look B i with
  | none =>
    have := F.fr i hi q
    rw [this] at h2
    refine ⟨this, ?_⟩
    cases z : y.testBit i with
    | true => rfl
    | false => rw [z] at h2; exact absurd rfl h2
  | some p =>
    obtain ⟨r, b⟩ := p
    have hm := look_mem q
    obtain ⟨o1, o2, o3, o4⟩ := O.ok _ hm
    have e1 := F.sol _ hm hi
    have e2 := hs _ hm
    simp only at o1 o2 o3 o4 e1 e2
    -- below i they agree; at i the row has a bit
    have hr : r < 2 ^ (i + 1) := by rw [← o3]; exact Nat.lt_log2_self
    have hb : r.testBit i = true := by rw [← o3]; exact Nat.testBit_log2 o1
    have e3 : pb (fun j => r.testBit j && t.testBit j) (i + 1) = pb (fun j => r.testBit j && y.testBit j) (i + 1) := by
      have m1 := pb_more (fun j => r.testBit j && t.testBit j) (n := i + 1) 25 (by omega) fun j hj => by rw [Nat.testBit_lt_two_pow (Nat.lt_of_lt_of_le hr (Nat.pow_le_pow_right (by decide) hj))]; rfl
      have m2 := pb_more (fun j => r.testBit j && y.testBit j) (n := i + 1) 25 (by omega) fun j hj => by rw [Nat.testBit_lt_two_pow (Nat.lt_of_lt_of_le hr (Nat.pow_le_pow_right (by decide) hj))]; rfl
      rw [← m1, ← m2]
      exact e1.trans e2.symm
    have e4 : pb (fun j => r.testBit j && t.testBit j) i = pb (fun j => r.testBit j && y.testBit j) i := pb_congr fun j hj => by rw [h1 j hj]
    have e5 : xor (pb (fun j => r.testBit j && t.testBit j) i) (r.testBit i && t.testBit i) = xor (pb (fun j => r.testBit j && y.testBit j) i) (r.testBit i && y.testBit i) := e3
    rw [e4, hb, Bool.true_and, Bool.true_and] at e5
    exfalso
    revert e5 h2
    generalize pb (fun j => r.testBit j && y.testBit j) i = c
    cases c <;> cases t.testBit i <;> cases y.testBit i <;> simp
structure Firsts (rows : List (Nat × Nat)) (n : Nat) (o : Option Nat) : Prop where
  no : o = none → ∀ x, ¬ Sol rows x
  yes : ∀ t, o = some t → t < 2 ^ n ∧ Sol rows t ∧ ∀ y < 2 ^ n, Sol rows y → y ≠ t → ∃ i < n, (∀ j < i, t.testBit j = y.testBit j) ∧ t.testBit i = false ∧ y.testBit i = true
def optD : Option Nat → D
  | none => .none
  | some t => .int t
theorem first_step (O : BasOk n B) {v t : Nat} (hv : v < n) (hn : n ≤ 24) (F : FirstB n B v t) : (look B v = none → FirstB n B (v + 1) t) ∧ ∀ r b, look B v = some (r, b) → FirstB n B (v + 1) (if (dot r t).toNat = b then t else t + 2 ^ v) := by
  have key : ∀ e ∈ B, e.1 < v → e.2.1 < 2 ^ v := fun e he h => by
    have := (O.ok e he).2.2.1
    exact Nat.lt_of_lt_of_le Nat.lt_log2_self (Nat.pow_le_pow_right (by decide) (by omega))
  have lt1 : t < 2 ^ (v + 1) := by have := F.lt; rw [Nat.pow_succ]; omega
  refine ⟨fun q => ⟨lt1, fun e he h => ?_, fun i hi hq => ?_⟩, fun r b q => ?_⟩
  · rcases Nat.lt_or_ge e.1 v with z | z
    · exact F.sol e he z
    · exact absurd (by omega) (look_none q e he)
  · rcases Nat.lt_or_ge i v with z | z
    · exact F.fr i z hq
    · have : i = v := by omega
      subst this
      exact Nat.testBit_lt_two_pow F.lt
  · have hm := look_mem q
    obtain ⟨o1, o2, o3, o4⟩ := O.ok _ hm
    simp only at o1 o2 o3 o4
    have hb : r.testBit v = true := by rw [← o3]; exact Nat.testBit_log2 o1
    have da := dot_add (r := r) F.lt (by omega)
    rw [hb] at da
    have same : ∀ e ∈ B, e.1 = v → e.2 = (r, b) := fun e he h => by
      have := look_of O.nd (show (e.1, e.2) ∈ B from he)
      rw [h, q] at this
      exact (Option.some.inj this).symm
    have lo : ∀ e ∈ B, e.1 < v → dot e.2.1 (t + 2 ^ v) = dot e.2.1 t := fun e he h => by
      rw [dot_add F.lt (by omega), Nat.testBit_lt_two_pow (key e he h), Bool.xor_false]
    split
    · rename_i c
      refine ⟨lt1, fun e he h => ?_, fun i hi hq => ?_⟩
      · rcases Nat.lt_or_ge e.1 v with z | z
        · exact F.sol e he z
        · have := same e he (by omega)
          rw [this]
          simp only
          rw [← c]
          cases dot r t <;> rfl
      · rcases Nat.lt_or_ge i v with z | z
        · exact F.fr i z hq
        · have : i = v := by omega
          subst this
          rw [q] at hq; cases hq
    · rename_i c
      refine ⟨by have := F.lt; rw [Nat.pow_succ]; omega, fun e he h => ?_, fun i hi hq => ?_⟩
      · rcases Nat.lt_or_ge e.1 v with z | z
        · rw [lo e he z]; exact F.sol e he z
        · have := same e he (by omega)
          rw [this]
          simp only
          rw [da]
          revert c
          rcases (show b = 0 ∨ b = 1 by omega) with rfl | rfl <;> cases dot r t <;> simp
      · rcases Nat.lt_or_ge i v with z | z
        · rw [Nat.add_comm, Nat.testBit_two_pow_add_gt z]; exact F.fr i z hq
        · have : i = v := by omega
          subst this
          rw [q] at hq; cases hq
end
end Eng

end
section
set_option Elab.async false
set_option linter.all false
set_option maxRecDepth 100000
set_option maxHeartbeats 16000000
set_option autoImplicit false
namespace Eng
open PySem PySem.Spec PyProof.Rows L2
section
variable {cl : Calls} {gl : List D} {st : Sta} {n : Nat} {B : Bas}
theorem addPow (t v : Nat) : binD .add (.int t) (.int (1 * 2 ^ v : Nat)) = some (.int ((t + 2 ^ v : Nat) : Int)) := by
  rw [addB, Nat.one_mul, Int.natCast_add]
  rfl
theorem q_first {ir ip : Nat} {rows : List (Nat × Nat)} {d : D} (hn : n ≤ 24) (hr : ∀ p ∈ rows, p.1 < 2 ^ n ∧ p.2 < 2) (hl : rows.length ≤ 100000) (hd : seqD d = some (rows.map prD))
    (cr : ∀ (B : Bas) (r b : Nat), BasOk n B → r < 2 ^ n → b < 2 → ∃ r' b', cl ir [dictD (basD B), .int r, .int b] st = .ok (prD (r', b')) st ∧ r' < 2 ^ n ∧ b' < 2 ∧ (r' ≠ 0 → look B r'.log2 = none) ∧ Reach B r b r' b')
    (cp : ∀ m : Nat, m < 2 ^ 25 → cl ip [.int m] st = .ok (.int (parN m : Nat)) st) :
    ∃ o, Firsts rows n o ∧ execs cl gl (bFirst ir ip) [.val d, .val (.int n), .emp, .emp, .emp, .emp, .emp] st = .ok (.ret (optD o)) st := by
  unfold bFirst
  have L1 := for_mapR (tg := .tup (.cons (.name 5) (.cons (.name 6) .nil))) (φ := prD) (xs := rows) (st := st) (ρ := [.val d, .val (.int n), .dic (basD []), .emp, .emp, .emp, .emp])
    (body := execs cl gl (.cons (.asg (.tup (.cons (.name 5) (.cons (.name 6) .nil))) (.call ir (.cons (.bor 2) (.cons (.var 5) (.cons (.var 6) .nil))))) (.cons (.ite (.cmp .gt (.var 5) (.const (.int 0)))
 (.cons (.dput 2 (.bin .sub (.bits (.var 5)) (.const (.int 1))) (.tup (.cons (.var 5) (.cons (.var 6) .nil)))) .nil)
 (.cons (.ite (.cmp .eq (.var 6) (.const (.int 1)))
 (.cons (.ret (.const .none)) .nil)
 .nil)
 .nil))
 .nil)))
    (fun d' s => s = st ∧ d' = .none ∧ ∀ x, ¬ Sol rows x)
    (fun ys _ ρ s => s = st ∧ ∃ (B : Bas) (s5 s6 : Slot), ρ = [.val d, .val (.int n), .dic (basD B), .emp, .emp, s5, s6] ∧ BasOk n B ∧ B.length ≤ ys.length ∧ ∀ x, Sol ys x ↔ SolB B x)
    ⟨rfl, [], _, _, rfl, ⟨List.nodup_nil, fun _ h => (by cases h)⟩, Nat.le_refl _, fun x => ⟨fun _ _ h => (by cases h), fun _ _ h => (by cases h)⟩⟩
    (fun ys p zs ρ s e h => by
      obtain ⟨rfl, B, s5, s6, rfl, O, hB, hS⟩ := h
      obtain ⟨r, b⟩ := p
      have hp := hr (r, b) (by rw [e]; simp)
      simp only at hp
      have hly : ys.length ≤ 100000 := by
        have := congrArg List.length e
        rw [List.length_append, List.length_cons] at this
        omega
      obtain ⟨r', b', c1, c2, c3, c4, c5⟩ := cr B r b O hp.1 hp.2
      have hS2 : ∀ x, Sol (ys ++ [(r, b)]) x ↔ (SolB B x ∧ dot r x = decide (b = 1)) := fun x => by
        rw [← hS x]
        constructor
        · exact fun h => ⟨fun q hq => h q (List.mem_append_left _ hq), h (r, b) (by simp)⟩
        · rintro ⟨h1, h2⟩ q hq
          rcases List.mem_append.mp hq with z | z
          · exact h1 q z
          · rw [List.mem_singleton.mp z]; exact h2
      refine ⟨[.val d, .val (.int n), .dic (basD B), .emp, .emp, .val (.int r), .val (.int b)], rfl, ?_⟩
      have st1 : ∀ ss rr, execs cl gl ss [.val d, .val (.int n), .dic (basD B), .emp, .emp, .val (.int r'), .val (.int b')] s = rr → execs cl gl (.cons (.asg (.tup (.cons (.name 5) (.cons (.name 6) .nil))) (.call ir (.cons (.bor 2) (.cons (.var 5) (.cons (.var 6) .nil))))) ss) [.val d, .val (.int n), .dic (basD B), .emp, .emp, .val (.int r), .val (.int b)] s = rr := fun ss rr h =>
        x_asg (e_call (w := true) (ea_cons e_borD (ea_cons e_var (ea_cons e_var ea_nil))) c1 rfl) rfl h
      by_cases h0 : r' = 0
      · subst h0
        have t1 : ev cl gl [.val d, .val (.int n), .dic (basD B), .emp, .emp, .val (.int (0 : Nat)), .val (.int b')] false (.cmp .gt (.var 5) (.const (.int 0))) s = .ok (.bool false) s := e_cmp e_var e_con (c_gt _ _)
        by_cases hb : b' = 1
        · subst hb
          refine .inr ⟨.none, s, ?_, rfl, rfl, fun x hx => ?_⟩
          · refine st1 _ _ ?_
            exact x_iteFR t1 (x_iteR (e_cmp e_var e_con (c_eq _ _)) (x_ret e_con))
          · have hx' : Sol (ys ++ [(r, b)]) x := fun q hq => hx q (by rw [e]; simp at hq ⊢; rcases hq with hq | hq; exact .inl hq; exact .inr (.inl hq))
            have h2 := (hS2 x).mp hx'
            have h3 := (reach_sol O hp.2 c5 h2.1).mpr h2.2
            rw [dot_zero] at h3
            cases h3
        · refine .inl ⟨[.val d, .val (.int n), .dic (basD B), .emp, .emp, .val (.int (0 : Nat)), .val (.int b')], s, .inl (st1 _ _ (x_iteF t1 (x_skip (e_cmp e_var e_con (by rw [c_eq, decide_eq_false (by omega)])) x_nil) x_nil)), rfl, B, _, _, rfl, O, by rw [List.length_append]; exact Nat.le_add_right_of_le hB, fun x => ?_⟩
          rw [hS2 x]
          constructor
          · exact fun h => h.1
          · intro h
            refine ⟨h, (reach_sol O hp.2 c5 h).mp ?_⟩
            rw [dot_zero, decide_eq_false hb]
      · have hk := c4 h0
        obtain ⟨O', hput⟩ := O.put h0 c2 c3 hk
        refine .inl ⟨[.val d, .val (.int n), .dic (basD (B ++ [(r'.log2, r', b')])), .emp, .emp, .val (.int r'), .val (.int b')], s, .inl (st1 _ _ (x_iteT (e_cmp e_var e_con (by rw [c_gt, decide_eq_true (by omega)])) (x_dput rfl (e_tup (es_cons e_var (es_cons e_var es_nil)) (szl (by show 2 ≤ 1000000; omega))) (top_ev rfl h0) rfl (by unfold basD; rw [List.length_map]; exact szt (by omega)) (by
          show execs cl gl .nil [.val d, .val (.int n), .dic (putD (basD B) (.inl (r'.log2 : Int)) (prD (r', b'))), .emp, .emp, .val (.int r'), .val (.int b')] s = _
          rw [hput]
          exact x_nil)) x_nil)), rfl, _, _, _, rfl, O', by rw [List.length_append, List.length_append]; exact Nat.add_le_add_right hB 1, fun x => ?_⟩
        rw [hS2 x]
        constructor
        · rintro ⟨h1, h2⟩ q hq
          rcases List.mem_append.mp hq with z | z
          · exact h1 q z
          · rw [List.mem_singleton.mp z]
            exact (reach_sol O hp.2 c5 h1).mpr h2
        · intro h
          have h1 : SolB B x := fun q hq => h q (List.mem_append_left _ hq)
          exact ⟨h1, (reach_sol O hp.2 c5 h1).mp (h (r'.log2, r', b') (List.mem_append_right _ (List.mem_singleton.mpr rfl)))⟩)
  rcases L1 with ⟨ρ1, st1, h1, rfl, B, s5, s6, rfl, O, hB, hS⟩ | ⟨d', st1, h1, rfl, rfl, hno⟩
  · -- the second loop
    obtain ⟨ρ2, st2, h2, rfl, t, s4, s5', s6', rfl, F⟩ := for_map (tg := .name 4) (φ := .int) (xs := rng n) (st := st1) (ρ := [.val d, .val (.int n), .dic (basD B), .val (.int (0 : Nat)), .emp, s5, s6])
      (body := execs cl gl (.cons (.ite (.din true (.var 4) (.bor 2))
 (.cons (.asg (.tup (.cons (.name 5) (.cons (.name 6) .nil))) (.dget (.bor 2) (.var 4))) (.cons (.ite (.cmp .ne (.call ip (.cons (.bin .band (.var 5) (.var 3)) .nil)) (.var 6))
 (.cons (.set 3 (.bin .add (.var 3) (.bin .shl (.const (.int 1)) (.var 4)))) .nil)
 .nil)
 .nil))
 .nil)
 .nil))
      (fun ys _ ρ s => s = st1 ∧ ∃ (t : Nat) (s4 s5 s6 : Slot), ρ = [.val d, .val (.int n), .dic (basD B), .val (.int t), s4, s5, s6] ∧ FirstB n B ys.length t)
      ⟨rfl, 0, _, _, _, rfl, ⟨Nat.one_pos, fun e _ h => (by simp at h), fun i h => (by simp at h)⟩⟩ (fun ys x zs ρ s e h => by
        obtain ⟨rfl, t, s4, s5, s6, rfl, F⟩ := h
        have hx : x = (ys.length : Nat) := by
          have h1 : (rng n)[ys.length]? = some x := by rw [e, List.getElem?_append_right (Nat.le_refl _)]; simp
          unfold rng at h1
          rw [List.getElem?_map] at h1
          cases q : (List.range n)[ys.length]? with
          | none => rw [q] at h1; cases h1
          | some i =>
            rw [q] at h1
            obtain ⟨q1, q2⟩ := List.getElem?_eq_some_iff.mp q
            rw [List.getElem_range] at q2
            cases h1
            rw [q2]
        have hv : ys.length < n := by
          have := congrArg List.length e
          rw [rng_len, List.length_append, List.length_cons] at this
          omega
        subst hx
        have fs := first_step O hv hn F
        refine ⟨[.val d, .val (.int n), .dic (basD B), .val (.int t), .val (.int (ys.length : Nat)), s5, s6], rfl, ?_⟩
        have t1 : ev cl gl [.val d, .val (.int n), .dic (basD B), .val (.int t), .val (.int (ys.length : Nat)), s5, s6] false (.din true (.var 4) (.bor 2)) s = .ok (.bool ((look B ys.length).isSome == true)) s := e_din e_var e_borD (look_din _ _)
        cases q : look B ys.length with
        | none =>
          rw [q] at t1
          exact ⟨_, s, .inl (x_skip t1 x_nil), rfl, t, _, _, _, rfl, by rw [List.length_append]; exact fs.1 q⟩
        | some p =>
          obtain ⟨r, b⟩ := p
          rw [q] at t1
          have hm := look_mem q
          obtain ⟨o1, o2, o3, o4⟩ := O.ok _ hm
          simp only at o1 o2 o3 o4
          have hr25 : r < 2 ^ 25 := Nat.lt_of_lt_of_le o2 (Nat.pow_le_pow_right (by decide) (by omega))
          have F' := fs.2 r b q
          have t2 : ev cl gl [.val d, .val (.int n), .dic (basD B), .val (.int t), .val (.int (ys.length : Nat)), .val (.int r), .val (.int b)] false (.cmp .ne (.call ip (.cons (.bin .band (.var 5) (.var 3)) .nil)) (.var 6)) s = .ok (.bool (!decide (((parN (r &&& t) : Nat) : Int) = (b : Nat)))) s :=
            e_cmp (e_call (ea_cons (e_bin e_var e_var (andD _ _)) ea_nil) (cp _ (by rw [Nat.and_comm]; exact Nat.and_lt_two_pow _ hr25))) e_var (c_ne _ _)
          rw [parN_and hr25] at t2
          by_cases c : (dot r t).toNat = b
          · rw [if_pos c] at F'
            rw [decide_eq_true (by rw [c])] at t2
            exact ⟨_, s, .inl (x_iteT t1 (x_asg (e_dget e_borD e_var (look_get q)) rfl (x_skip t2 x_nil)) x_nil), rfl, t, _, _, _, rfl, by rw [List.length_append]; exact F'⟩
          · rw [if_neg c] at F'
            rw [decide_eq_false (by omega)] at t2
            refine ⟨[.val d, .val (.int n), .dic (basD B), .val (.int ((t + 2 ^ ys.length : Nat) : Int)), .val (.int (ys.length : Nat)), .val (.int r), .val (.int b)], s, .inl (x_iteT t1 (x_asg (e_dget e_borD e_var (look_get q)) rfl (x_iteT t2 (x_set (e_bin e_var (e_bin e_con e_var (shlD 1 ys.length (by omega) (by omega))) (addPow t ys.length)) (Nat.le_of_ble_eq_true rfl) x_nil) x_nil)) x_nil), rfl, _, _, _, _, rfl, by rw [List.length_append]; exact F'⟩)
    rw [rng_len] at F
    refine ⟨some t, ⟨fun z => (by cases z), fun t' z => ?_⟩, ?_⟩
    · cases z
      have hSB : SolB B t := fun e he => F.sol e he (by
        have := O.ok e he
        rw [← this.2.2.1]
        exact log2_lt_of this.1 this.2.1)
      exact ⟨F.lt, (hS t).mpr hSB, fun y hy hs ne => first_low O hn F hy ((hS y).mp hs) ne⟩
    · refine x_newD (Nat.le_of_ble_eq_true rfl) (x_for (it_seq e_var hd) h1 (x_set e_con (Nat.le_of_ble_eq_true rfl) (x_for (evIt_rng1 e_var (low (by omega))) h2 (x_ret e_var))))
  · exact ⟨none, ⟨fun _ => hno, fun t z => (by cases z)⟩, x_newD (Nat.le_of_ble_eq_true rfl) (x_forR (it_seq e_var hd) h1)⟩
end
end Eng

end
section
set_option Elab.async false
set_option linter.all false
set_option maxRecDepth 100000
set_option maxHeartbeats 16000000
set_option autoImplicit false
namespace Eng
open PySem PySem.Spec PyProof.Rows L2
section
variable {cl : Calls} {gl : List D} {st : Sta} {n : Nat} {B : Bas}
/-! ### ranks -/
def spanStep (F : List Nat) (r : Nat) : List Nat := if r ∈ F then F else F ++ F.map fun f => f ^^^ r
theorem span_in {F : List Nat} {r : Nat} (h : r ∈ F) : spanStep F r = F := if_pos h
theorem span_out {F : List Nat} {r : Nat} (h : r ∉ F) : spanStep F r = F ++ F.map fun f => f ^^^ r := if_neg h
structure SpanOk (n : Nat) (F : List Nat) (B : Bas) : Prop where
  z : 0 ∈ F
  cl : ∀ u ∈ F, ∀ v ∈ F, u ^^^ v ∈ F
  nd : F.Nodup
  len : F.length = 2 ^ B.length
  lt : ∀ u ∈ F, u < 2 ^ n
  mem : ∀ e ∈ B, e.2.1 ∈ F
  top : ∀ u ∈ F, u ≠ 0 → look B u.log2 ≠ none
theorem xxr (a b : Nat) : (a ^^^ b) ^^^ b = a := by rw [Nat.xor_assoc, Nat.xor_self, Nat.xor_zero]
theorem look_app {B : Bas} {e : Nat × Nat × Nat} {k : Nat} : look B k ≠ none → look (B ++ [e]) k ≠ none := fun h z => by
  cases q : look B k with
  | none => exact h q
  | some p => exact look_none z _ (List.mem_append_left _ (look_mem q)) rfl
theorem look_last {B : Bas} {p : Nat × Nat} {k : Nat} : look (B ++ [(k, p)]) k ≠ none := fun z => look_none z (k, p) (by simp) rfl
theorem span_step {F : List Nat} (S : SpanOk n F B) {r r' b' : Nat} (hr' : r' < 2 ^ n) (hk : r' ≠ 0 → look B r'.log2 = none) (h : Reach B r 0 r' b') :
    (r' = 0 → r ∈ F) ∧ (r' ≠ 0 → r ∉ F ∧ ∀ b, SpanOk n (F ++ F.map fun f => f ^^^ r) (B ++ [(r'.log2, r', b)])) := by
  have h1 : r' ^^^ r ∈ F := h (fun u _ => u ^^^ r ∈ F) (fun e he u _ hu => by
    rw [Nat.xor_assoc, Nat.xor_comm e.2.1 r, ← Nat.xor_assoc]
    exact S.cl _ hu _ (S.mem e he)) (by rw [Nat.xor_self]; exact S.z)
  refine ⟨fun z => by subst z; rw [Nat.zero_xor] at h1; exact h1, fun hz => ?_⟩
  have hk := hk hz
  have n1 : r' ∉ F := fun z => S.top r' z hz hk
  have n2 : r ∉ F := fun z => n1 (by
    have := S.cl _ h1 _ z
    rw [xxr] at this
    exact this)
  have eqr : ∀ u ∈ F, ∃ g ∈ F, u ^^^ r = g ^^^ r' := fun u hu => ⟨u ^^^ (r' ^^^ r), S.cl _ hu _ h1, by rw [Nat.xor_comm r' r, ← Nat.xor_assoc, xxr]⟩
  have eqr' : ∀ g ∈ F, g ^^^ r' ∈ F.map fun f => f ^^^ r := fun g hg => List.mem_map.mpr ⟨g ^^^ (r' ^^^ r), S.cl _ hg _ h1, by rw [← Nat.xor_assoc, xxr]⟩
  refine ⟨n2, fun b => ⟨List.mem_append_left _ S.z, fun u hu v hv => ?_, ?_, ?_, fun u hu => ?_, fun e he => ?_, fun u hu hu0 => ?_⟩⟩
  · rcases List.mem_append.mp hu with hu | hu <;> rcases List.mem_append.mp hv with hv | hv
    · exact List.mem_append_left _ (S.cl _ hu _ hv)
    · obtain ⟨f, hf, rfl⟩ := List.mem_map.mp hv
      refine List.mem_append_right _ (List.mem_map.mpr ⟨_, S.cl _ hu _ hf, ?_⟩)
      rw [Nat.xor_assoc]
    · obtain ⟨f, hf, rfl⟩ := List.mem_map.mp hu
      refine List.mem_append_right _ (List.mem_map.mpr ⟨_, S.cl _ hf _ hv, ?_⟩)
      rw [Nat.xor_assoc, Nat.xor_comm v r, ← Nat.xor_assoc]
    · obtain ⟨f, hf, rfl⟩ := List.mem_map.mp hu
      obtain ⟨g, hg, rfl⟩ := List.mem_map.mp hv
      refine List.mem_append_left _ ?_
      rw [Nat.xor_comm g r, ← Nat.xor_assoc, xxr]
      exact S.cl _ hf _ hg
  · refine List.nodup_append.mpr ⟨S.nd, nodup_map S.nd fun x _ y _ e => ?_, fun x hx y hy e => ?_⟩
    · have := congrArg (fun z => z ^^^ r) e
      simp only [xxr] at this
      exact this
    · obtain ⟨f, hf, rfl⟩ := List.mem_map.mp hy
      refine n2 ?_
      have := S.cl _ hx _ hf
      rw [e, Nat.xor_comm f r, xxr] at this
      exact this
  · rw [List.length_append, List.length_map, S.len, List.length_append]
    show _ = 2 ^ (B.length + 1)
    rw [Nat.pow_succ]
    omega
  · rcases List.mem_append.mp hu with hu | hu
    · exact S.lt u hu
    · obtain ⟨f, hf, rfl⟩ := List.mem_map.mp hu
      obtain ⟨g, hg, e⟩ := eqr f hf
      rw [e]
      exact Nat.xor_lt_two_pow (S.lt g hg) hr'
  · rcases List.mem_append.mp he with he | he
    · exact List.mem_append_left _ (S.mem e he)
    · rw [List.mem_singleton.mp he]
      have := eqr' 0 S.z
      rw [Nat.zero_xor] at this
      exact List.mem_append_right _ this
  · rcases List.mem_append.mp hu with hu | hu
    · exact look_app (S.top u hu hu0)
    · obtain ⟨f, hf, rfl⟩ := List.mem_map.mp hu
      obtain ⟨g, hg, e⟩ := eqr f hf
      rw [e] at hu0 ⊢
      by_cases g0 : g = 0
      · subst g0
        rw [Nat.zero_xor]
        exact look_last
      · have ne : g.log2 ≠ r'.log2 := fun z => S.top g hg g0 (by rw [z]; exact hk)
        rw [(log2_xor_ne g0 hz ne).2]
        rcases Nat.le_total g.log2 r'.log2 with z | z
        · rw [Nat.max_eq_right z]; exact look_last
        · rw [Nat.max_eq_left z]; exact look_app (S.top g hg g0)
theorem span_zero : SpanOk n [0] [] := ⟨by simp, fun u hu v hv => by
  rw [List.mem_singleton.mp hu, List.mem_singleton.mp hv]; simp, by simp, rfl, fun u hu => by rw [List.mem_singleton.mp hu]; exact Nat.two_pow_pos n, fun e he => (by cases he), fun u hu h => absurd (List.mem_singleton.mp hu) h⟩
end
end Eng

end
section
set_option Elab.async false
set_option linter.all false
set_option maxRecDepth 100000
set_option maxHeartbeats 16000000
set_option autoImplicit false
namespace Eng
open PySem PySem.Spec PyProof.Rows L2
section
variable {cl : Calls} {gl : List D} {st : Sta} {n : Nat} {B : Bas}
theorem q_rank {ir : Nat} {rows : List Nat} {d : D} (hn : n ≤ 24) (hr : ∀ p ∈ rows, p < 2 ^ n) (hl : rows.length ≤ 100000) (hd : seqD d = some (rows.map fun r => .int (r : Nat)))
    (cr : ∀ (B : Bas) (r b : Nat), BasOk n B → r < 2 ^ n → b < 2 → ∃ r' b', cl ir [dictD (basD B), .int r, .int b] st = .ok (prD (r', b')) st ∧ r' < 2 ^ n ∧ b' < 2 ∧ (r' ≠ 0 → look B r'.log2 = none) ∧ Reach B r b r' b') :
    ∃ c : Nat, c ≤ rows.length ∧ (rows.foldl spanStep [0]).length = 2 ^ c ∧ execs cl gl (bRank ir) [.val d, .emp, .emp, .emp] st = .ok (.ret (.int c)) st := by
  unfold bRank
  obtain ⟨ρ1, st1, h1, rfl, B, s2, s3, rfl, O, hB, S⟩ := for_map (tg := .name 2) (φ := fun r : Nat => .int (r : Nat)) (xs := rows) (st := st) (ρ := [.val d, .dic (basD []), .emp, .emp])
    (body := execs cl gl (.cons (.asg (.tup (.cons (.name 2) (.cons (.name 3) .nil))) (.call ir (.cons (.bor 1) (.cons (.var 2) (.cons (.const (.int 0)) .nil))))) (.cons (.ite (.cmp .gt (.var 2) (.const (.int 0)))
 (.cons (.dput 1 (.bin .sub (.bits (.var 2)) (.const (.int 1))) (.tup (.cons (.var 2) (.cons (.const (.int 0)) .nil)))) .nil)
 .nil)
 .nil)))
    (fun ys _ ρ s => s = st ∧ ∃ (B : Bas) (s2 s3 : Slot), ρ = [.val d, .dic (basD B), s2, s3] ∧ BasOk n B ∧ B.length ≤ ys.length ∧ SpanOk n (ys.foldl spanStep [0]) B)
    ⟨rfl, [], _, _, rfl, ⟨List.nodup_nil, fun _ h => (by cases h)⟩, Nat.le_refl _, span_zero⟩
    (fun ys r zs ρ s e h => by
      obtain ⟨rfl, B, s2, s3, rfl, O, hB, S⟩ := h
      have hp := hr r (by rw [e]; simp)
      have hly : ys.length ≤ 100000 := by
        have := congrArg List.length e
        rw [List.length_append, List.length_cons] at this
        omega
      obtain ⟨r', b', c1, c2, c3, c4, c5⟩ := cr B r 0 O hp (by omega)
      obtain ⟨p1, p2⟩ := span_step S c2 c4 c5
      refine ⟨[.val d, .dic (basD B), .val (.int r), s3], rfl, ?_⟩
      rw [List.foldl_append]
      show ∃ ρ' st', _ ∧ _ ∧ ∃ (B : Bas) (s2 s3 : Slot), _ ∧ _ ∧ _ ∧ SpanOk n (spanStep (ys.foldl spanStep [0]) r) B
      by_cases h0 : r' = 0
      · subst h0
        refine ⟨[.val d, .dic (basD B), .val (.int (0 : Nat)), .val (.int b')], s, .inl (x_asg (e_call (w := true) (ea_cons e_borD (ea_cons e_var (ea_cons e_con ea_nil))) c1 rfl) rfl (x_skip (e_cmp e_var e_con (c_gt _ _)) x_nil)), rfl, B, _, _, rfl, O, by rw [List.length_append]; exact Nat.le_add_right_of_le hB, ?_⟩
        rw [span_in (p1 rfl)]
        exact S
      · obtain ⟨p3, p4⟩ := p2 h0
        obtain ⟨O', hput⟩ := O.put h0 c2 (show 0 < 2 by decide) (c4 h0)
        refine ⟨[.val d, .dic (basD (B ++ [(r'.log2, r', 0)])), .val (.int r'), .val (.int b')], s, .inl (x_asg (e_call (w := true) (ea_cons e_borD (ea_cons e_var (ea_cons e_con ea_nil))) c1 rfl) rfl (x_iteT (e_cmp e_var e_con (by rw [c_gt, decide_eq_true (by omega)])) (x_dput rfl (e_tup (es_cons e_var (es_cons e_con es_nil)) (szl (by show 2 ≤ 1000000; omega))) (top_ev rfl h0) rfl (by unfold basD; rw [List.length_map]; exact szt (by omega)) (by
          show execs cl gl .nil [.val d, .dic (putD (basD B) (.inl (r'.log2 : Int)) (prD (r', 0))), .val (.int r'), .val (.int b')] s = _
          rw [hput]
          exact x_nil)) x_nil)), rfl, _, _, _, rfl, O', by rw [List.length_append, List.length_append]; exact Nat.add_le_add_right hB 1, ?_⟩
        rw [span_out p3]
        exact p4 0)
  refine ⟨B.length, hB, S.len, ?_⟩
  refine x_newD (Nat.le_of_ble_eq_true rfl) (x_for (it_seq e_var hd) h1 (x_ret (e_bi e_borD ?_)))
  show (dKvs ((basD B).map kvD)).map (fun l => PyData.int (l.length : Nat)) = _
  rw [dKvs_of]
  show some (PyData.int ((basD B).length : Nat)) = _
  unfold basD
  rw [List.length_map]
end
end Eng

end
section
set_option Elab.async false
set_option linter.all false
set_option maxRecDepth 100000
set_option maxHeartbeats 16000000
set_option autoImplicit false
/-! Eng, part S: all sets in their order; sums of rows. -/
namespace Eng
open PySem PySem.Spec PyProof.Rows L2

/-- a set of vertices -/
structure VS (n : Nat) (l : List Int) : Prop where
  ss : SS l
  rg : ∀ x ∈ l, x ∈ rng n
theorem VS.sub {n : Nat} {l : List Int} (h : l.Sublist (rng n)) : VS n l := ⟨(ss_rng n).sub h, fun _ hx => h.subset hx⟩
theorem VS.len {n : Nat} {l : List Int} (h : VS n l) : l.length ≤ n := by
  have e : l = (rng n).filter fun x => decide (x ∈ l) := ss_ext h.ss ((ss_rng n).filter _) fun x => by
    rw [List.mem_filter, decide_eq_true_eq]
    exact ⟨fun z => ⟨h.rg x z, z⟩, fun z => z.2⟩
  rw [e]
  exact Nat.le_trans (List.length_filter_le ..) (by rw [rng_len]; exact Nat.le_refl _)
theorem VS.sum {n : Nat} {a b : List Int} (ha : VS n a) (hb : VS n b) : VS n (sumL a b) := ⟨ss_sumL ha.ss hb.ss, fun x h => by
  rcases mem_sumL.mp h with h | h
  · exact ha.rg x h.1
  · exact hb.rg x h.1⟩
theorem VS.nil {n : Nat} : VS n [] := ⟨List.Pairwise.nil, fun _ h => (by cases h)⟩
theorem VS.members {n m : Nat} (h : m < 2 ^ n) : VS n (membersN m) := ⟨ss_membersN m, fun x hx => by
  have h1 := mem_membersN.mp hx
  rw [mem_rng]
  have := tb_bits h1.2
  have := bits_le h
  omega⟩
/-- the sets of what is below n and at least n - j -/
def setsS (n : Nat) : Nat → List (List Int)
  | 0 => [[]]
  | j + 1 => setsS n j ++ (setsS n j).map fun s => ((n : Int) - 1 - j) :: s
theorem setsS_len (n : Nat) : ∀ j, (setsS n j).length = 2 ^ j
  | 0 => rfl
  | j + 1 => by
    unfold setsS
    rw [List.length_append, List.length_map, setsS_len n j, Nat.pow_succ]
    omega
theorem setsS_in (n : Nat) : ∀ j, ∀ s ∈ setsS n j, SS s ∧ ∀ x ∈ s, (n : Int) - j ≤ x ∧ x < n
  | 0, s, h => by
    unfold setsS at h
    rw [List.mem_singleton.mp h]
    exact ⟨List.Pairwise.nil, fun x h => by cases h⟩
  | j + 1, s, h => by
    unfold setsS at h
    rcases List.mem_append.mp h with h | h
    · have := setsS_in n j s h
      exact ⟨this.1, fun x hx => by have := this.2 x hx; omega⟩
    · obtain ⟨s', h', rfl⟩ := List.mem_map.mp h
      have := setsS_in n j s' h'
      refine ⟨List.pairwise_cons.mpr ⟨fun x hx => by have := this.2 x hx; omega, this.1⟩, fun x hx => ?_⟩
      rcases List.mem_cons.mp hx with hx | hx
      · omega
      · have := this.2 x hx; omega
theorem setsS_all (n : Nat) : ∀ (j : Nat) (s : List Int), SS s → (∀ x ∈ s, (n : Int) - j ≤ x ∧ x < n) → s ∈ setsS n j
  | 0, s, _, h => by
    cases s with
    | nil => exact List.mem_singleton.mpr rfl
    | cons x r => have := h x (List.mem_cons_self ..); omega
  | j + 1, s, hs, h => by
    unfold setsS
    cases s with
    | nil => exact List.mem_append_left _ (setsS_all n j [] List.Pairwise.nil fun x h => by cases h)
    | cons x r =>
      obtain ⟨h1, h2⟩ := List.pairwise_cons.mp hs
      have hx := h x (List.mem_cons_self ..)
      by_cases e : x = (n : Int) - 1 - j
      · subst e
        exact List.mem_append_right _ (List.mem_map.mpr ⟨r, setsS_all n j r h2 fun y hy => by have := h1 y hy; have := h y (List.mem_cons_of_mem _ hy); omega, rfl⟩)
      · exact List.mem_append_left _ (setsS_all n j (x :: r) hs fun y hy => by
          rcases List.mem_cons.mp hy with z | z
          · omega
          · have := h1 y z; have := h y (List.mem_cons_of_mem _ z); omega)
/-- at the first place where they differ the first one has nothing -/
def Before (a b : List Int) : Prop := ∃ i : Int, (∀ j < i, j ∈ a ↔ j ∈ b) ∧ i ∉ a ∧ i ∈ b
theorem setsS_ord (n : Nat) : ∀ j, (setsS n j).Pairwise Before
  | 0 => List.pairwise_singleton _ _
  | j + 1 => by
    unfold setsS
    have ih := setsS_ord n j
    refine List.pairwise_append.mpr ⟨ih, ?_, fun a ha b hb => ?_⟩
    · rw [List.pairwise_map]
      refine ih.imp_of_mem fun {a b} ha hb ⟨i, h1, h2, h3⟩ => ⟨i, fun k hk => ?_, fun z => ?_, List.mem_cons_of_mem _ h3⟩
      · rw [List.mem_cons, List.mem_cons, h1 k hk]
      · rcases List.mem_cons.mp z with z | z
        · have := (setsS_in n j b hb).2 i h3; omega
        · exact h2 z
    · obtain ⟨b', hb', rfl⟩ := List.mem_map.mp hb
      refine ⟨(n : Int) - 1 - j, fun k hk => ?_, fun z => ?_, List.mem_cons_self ..⟩
      · constructor
        · intro z; have := (setsS_in n j a ha).2 k z; omega
        · intro z
          rcases List.mem_cons.mp z with z | z
          · omega
          · have := (setsS_in n j b' hb').2 k z; omega
      · have := (setsS_in n j a ha).2 _ z; omega
theorem setsS_vs {n : Nat} {s : List Int} (h : s ∈ setsS n n) : VS n s := ⟨(setsS_in n n s h).1, fun x hx => by have := (setsS_in n n s h).2 x hx; rw [mem_rng]; omega⟩
theorem vs_setsS {n : Nat} {s : List Int} (h : VS n s) : s ∈ setsS n n := setsS_all n n s h.ss fun x hx => by have := mem_rng.mp (h.rg x hx); omega
/-! ### rows as sets -/
theorem dot_count {a b : List Int} {n : Nat} (hn : n ≤ 25) (ha : VS n a) : (a.filter fun x => decide (x ∈ b)).length % 2 = (dot (setN a) (setN b)).toNat := by
  have e : a.filter (fun x => decide (x ∈ b)) = membersN (setN a &&& setN b) := ss_ext (ha.ss.filter _) (ss_membersN _) fun x => by
    rw [List.mem_filter, mem_membersN, Nat.testBit_and, setN_bit, setN_bit, decide_eq_true_eq]
    constructor
    · rintro ⟨h1, h2⟩
      have := mem_rng.mp (ha.rg x h1)
      rw [show ((x.toNat : Nat) : Int) = x by omega, decide_eq_true h1, decide_eq_true h2, decide_eq_true (show x.toNat < 25 by omega)]
      exact ⟨this.1, rfl⟩
    · rintro ⟨h1, h2⟩
      rw [show ((x.toNat : Nat) : Int) = x by omega] at h2
      simp only [Bool.and_eq_true, decide_eq_true_eq] at h2
      exact ⟨h2.1.2, h2.2.2⟩
  rw [e]
  exact parN_and (setN_lt a)
def holdsB (s : List Int) (p : List Int × Nat) : Bool := decide ((p.1.filter fun x => decide (x ∈ s)).length % 2 = p.2)
theorem holds_dot {s : List Int} {p : List Int × Nat} {n : Nat} (hn : n ≤ 25) (h : VS n p.1) (hb : p.2 < 2) : holdsB s p = true ↔ dot (setN p.1) (setN s) = decide (p.2 = 1) := by
  unfold holdsB
  rw [dot_count hn h, decide_eq_true_eq]
  rcases (show p.2 = 0 ∨ p.2 = 1 by omega) with z | z <;> rw [z] <;> cases dot (setN p.1) (setN s) <;> decide
def maskR (rows : List (List Int × Nat)) : List (Nat × Nat) := rows.map fun p => (setN p.1, p.2)
theorem sol_holds {rows : List (List Int × Nat)} {n : Nat} (hn : n ≤ 25) (h : ∀ p ∈ rows, VS n p.1 ∧ p.2 < 2) (s : List Int) : (rows.all (holdsB s)) = true ↔ Sol (maskR rows) (setN s) := by
  rw [List.all_eq_true]
  constructor
  · intro z q hq
    obtain ⟨p, hp, rfl⟩ := List.mem_map.mp hq
    exact (holds_dot hn (h p hp).1 (h p hp).2).mp (z p hp)
  · intro z p hp
    exact (holds_dot hn (h p hp).1 (h p hp).2).mpr (z (setN p.1, p.2) (List.mem_map.mpr ⟨p, hp, rfl⟩))
/-- the first set that does, and the solution that is told -/
theorem first_set {rows : List (List Int × Nat)} {n : Nat} (hn : n ≤ 24) (h : ∀ p ∈ rows, VS n p.1 ∧ p.2 < 2) {o : Option Nat} (F : Firsts (maskR rows) n o) : ((setsS n n).find? fun s => rows.all (holdsB s)).map setN = o := by
  cases o with
  | none =>
    have := F.no rfl
    rw [Option.map_eq_none_iff, List.find?_eq_none]
    intro s hs z
    exact this _ ((sol_holds (by omega) h s).mp z)
  | some t =>
    obtain ⟨h1, h2, h3⟩ := F.yes t rfl
    have vt : VS n (membersN t) := .members h1
    have et : setN (membersN t) = t := by
      refine Nat.eq_of_testBit_eq fun i => ?_
      rw [setN_bit]
      cases z : t.testBit i with
      | false =>
        have : ¬ (i : Int) ∈ membersN t := fun w => by
          have := (mem_membersN.mp w).2
          rw [Int.toNat_natCast, z] at this
          cases this
        rw [decide_eq_false this, Bool.and_false]
      | true =>
        have h4 := tb_bits z
        have h5 := bits_le h1
        have : (i : Int) ∈ membersN t := mem_membersN.mpr ⟨by omega, by rw [Int.toNat_natCast]; exact z⟩
        rw [decide_eq_true this, decide_eq_true (by omega)]
        rfl
    have ht : rows.all (holdsB (membersN t)) = true := (sol_holds (by omega) h _).mpr (by rw [et]; exact h2)
    have mt := vs_setsS vt
    cases q : (setsS n n).find? fun s => rows.all (holdsB s) with
    | none =>
      rw [List.find?_eq_none] at q
      exact absurd ht (q _ mt)
    | some g =>
      obtain ⟨hg, as, bs, e, hno⟩ := List.find?_eq_some_iff_append.mp q
      have vg : VS n g := setsS_vs (by rw [e]; simp)
      show some (setN g) = some t
      by_cases hgt : g = membersN t
      · rw [hgt, et]
      · exfalso
        have hbs : membersN t ∈ bs := by
          rw [e] at mt
          rcases List.mem_append.mp mt with z | z
          · have := hno _ z
            rw [ht] at this
            cases this
          · rcases List.mem_cons.mp z with z | z
            · exact absurd z.symm hgt
            · exact z
        have hord := setsS_ord n n
        rw [e] at hord
        obtain ⟨i, b1, b2, b3⟩ := (List.pairwise_cons.mp (List.pairwise_append.mp hord).2.1).1 _ hbs
        have sg := (sol_holds (by omega) h g).mp hg
        have hne : setN g ≠ t := fun z => hgt (setN_inj (n := n) (by omega) vg.ss vt.ss vg.rg vt.rg (by rw [z, et]))
        obtain ⟨k, k1, k2, k3, k4⟩ := h3 _ (setN_lt_n vg.rg) sg hne
        -- k: t has nothing, g has; i: g has nothing, t has
        have m3 := (mem_membersN.mp b3)
        have kg : (k : Int) ∈ g := by
          rw [setN_bit] at k4
          simp only [Bool.and_eq_true, decide_eq_true_eq] at k4
          exact k4.2
        have kt : ¬ (k : Int) ∈ membersN t := fun w => by
          have := (mem_membersN.mp w).2
          rw [Int.toNat_natCast, k3] at this
          cases this
        rcases Int.lt_trichotomy (k : Int) i with z | z | z
        · exact kt ((b1 _ z).mp kg)
        · rw [z] at kg; exact b2 kg
        · have := k2 i.toNat (by omega)
          rw [m3.2, setN_bit] at this
          have := this.symm
          rw [Bool.and_eq_true, decide_eq_true_eq, decide_eq_true_eq] at this
          rw [show ((i.toNat : Nat) : Int) = i by omega] at this
          exact b2 this.2
/-! ### sums -/
def sumStep (F : List (List Int)) (r : List Int) : List (List Int) := F.foldl (fun acc f => if sumL r f ∈ acc then acc else acc ++ [sumL r f]) F
theorem span_ex {n : Nat} (hn : n ≤ 50) : ∀ (rows : List Nat) (F : List Nat) (B : Bas), (∀ r ∈ rows, r < 2 ^ n) → BasOk n B → SpanOk n F B → ∃ B', BasOk n B' ∧ SpanOk n (rows.foldl spanStep F) B'
  | [], F, B, _, O, S => ⟨B, O, S⟩
  | r :: rows, F, B, h, O, S => by
    obtain ⟨r', b', _, c2, c3, c4, c5⟩ := q_reduced (cl := fun _ _ _ => .bad) (gl := []) (st := none) O hn (h r (List.mem_cons_self ..)) (show 0 < 2 by decide)
    obtain ⟨p1, p2⟩ := span_step S c2 c4 c5
    rw [List.foldl_cons]
    by_cases h0 : r' = 0
    · rw [span_in (p1 h0)]
      exact span_ex hn rows F B (fun x hx => h x (List.mem_cons_of_mem _ hx)) O S
    · rw [span_out (p2 h0).1]
      exact span_ex hn rows _ _ (fun x hx => h x (List.mem_cons_of_mem _ hx)) (O.put h0 c2 (show 0 < 2 by decide) (c4 h0)).1 ((p2 h0).2 0)
theorem fold_same {r : List Int} {acc : List (List Int)} : ∀ (l : List (List Int)), (∀ f ∈ l, sumL r f ∈ acc) → l.foldl (fun acc f => if sumL r f ∈ acc then acc else acc ++ [sumL r f]) acc = acc
  | [], _ => rfl
  | f :: l, h => by
    rw [List.foldl_cons, if_pos (h f (List.mem_cons_self ..))]
    exact fold_same l fun x hx => h x (List.mem_cons_of_mem _ hx)
theorem fold_new {r : List Int} : ∀ (l acc : List (List Int)), (∀ f ∈ l, sumL r f ∉ acc) → (l.map (sumL r)).Nodup → l.foldl (fun acc f => if sumL r f ∈ acc then acc else acc ++ [sumL r f]) acc = acc ++ l.map (sumL r)
  | [], acc, _, _ => by simp
  | f :: l, acc, h, nd => by
    rw [List.map_cons] at nd
    obtain ⟨n1, n2⟩ := List.nodup_cons.mp nd
    rw [List.foldl_cons, if_neg (h f (List.mem_cons_self ..)), fold_new l _ (fun x hx z => ?_) n2]
    · simp
    · rcases List.mem_append.mp z with z | z
      · exact h x (List.mem_cons_of_mem _ hx) z
      · exact n1 (by rw [← List.mem_singleton.mp z]; exact List.mem_map.mpr ⟨x, hx, rfl⟩)
theorem sum_step {n : Nat} (hn : n ≤ 25) {F : List (List Int)} {B : Bas} {r : List Int} (hF : ∀ f ∈ F, VS n f) (hr : VS n r) (S : SpanOk n (F.map setN) B) :
    (∀ f ∈ sumStep F r, VS n f) ∧ (sumStep F r).map setN = spanStep (F.map setN) (setN r) := by
  have hm : ∀ f ∈ F, setN (sumL r f) = setN f ^^^ setN r := fun f _ => by rw [setN_xor, Nat.xor_comm]
  have inj : ∀ a b, VS n a → VS n b → setN a = setN b → a = b := fun a b ha hb e => setN_inj hn ha.ss hb.ss ha.rg hb.rg e
  by_cases hin : setN r ∈ F.map setN
  · have e : sumStep F r = F := fold_same F fun f hf => by
      have h1 := S.cl _ (List.mem_map.mpr ⟨f, hf, rfl⟩) _ hin
      obtain ⟨g, hg, e⟩ := List.mem_map.mp h1
      have := inj g (sumL r f) (hF g hg) (hr.sum (hF f hf)) (by rw [e, hm f hf])
      rw [← this]; exact hg
    rw [e, span_in hin]
    exact ⟨hF, rfl⟩
  · have e : sumStep F r = F ++ F.map (sumL r) := fold_new F F (fun f hf z => hin (by
      have h1 : setN f ^^^ setN r ∈ F.map setN := by rw [← hm f hf]; exact List.mem_map.mpr ⟨_, z, rfl⟩
      have h2 := S.cl _ h1 _ (List.mem_map.mpr ⟨f, hf, rfl⟩)
      rw [Nat.xor_comm (setN f), xxr] at h2
      exact h2)) (nodup_map (by
        have := S.nd
        exact (List.pairwise_map.mp this).imp fun h e => h (by rw [e])) fun a ha b hb e => by
        have h1 := congrArg setN e
        rw [hm a ha, hm b hb] at h1
        have h2 := congrArg (fun z => z ^^^ setN r) h1
        simp only [xxr] at h2
        exact inj a b (hF a ha) (hF b hb) h2)
    rw [e, span_out hin]
    refine ⟨fun f hf => ?_, ?_⟩
    · rcases List.mem_append.mp hf with z | z
      · exact hF f z
      · obtain ⟨g, hg, rfl⟩ := List.mem_map.mp z
        exact hr.sum (hF g hg)
    · rw [List.map_append, List.map_map, List.map_map]
      exact congrArg (fun z => F.map setN ++ z) (List.map_congr_left fun f hf => hm f hf)
theorem sums_span {n : Nat} (hn : n ≤ 25) : ∀ (rows : List (List Int)) (F : List (List Int)) (B : Bas), (∀ r ∈ rows, VS n r) → (∀ f ∈ F, VS n f) → BasOk n B → SpanOk n (F.map setN) B → (∀ f ∈ rows.foldl sumStep F, VS n f) ∧ (rows.foldl sumStep F).map setN = (rows.map setN).foldl spanStep (F.map setN)
  | [], F, B, _, hF, _, _ => ⟨hF, rfl⟩
  | r :: rows, F, B, h, hF, O, S => by
    obtain ⟨s1, s2⟩ := sum_step hn hF (h r (List.mem_cons_self ..)) S
    obtain ⟨B', O', S'⟩ := span_ex (n := n) (by omega) [setN r] (F.map setN) B (fun x hx => by rw [List.mem_singleton.mp hx]; exact setN_lt_n (h r (List.mem_cons_self ..)).rg) O S
    rw [List.foldl_cons, List.map_cons, List.foldl_cons, ← s2]
    refine sums_span hn rows _ B' (fun x hx => h x (List.mem_cons_of_mem _ hx)) s1 O' ?_
    rw [s2]
    exact S'
theorem sums_len {n : Nat} (hn : n ≤ 25) (rows : List (List Int)) (h : ∀ r ∈ rows, VS n r) : (∀ f ∈ rows.foldl sumStep [[]], VS n f) ∧ (rows.foldl sumStep [[]]).length = ((rows.map setN).foldl spanStep [0]).length := by
  have z : ([[]] : List (List Int)).map setN = [0] := by
    have e : setN [] = 0 := Nat.eq_of_testBit_eq fun i => by
      rw [setN_bit, Nat.zero_testBit]
      simp
    show [setN []] = [0]
    rw [e]
  have := sums_span (n := n) hn rows [[]] [] h (fun f hf => by rw [List.mem_singleton.mp hf]; exact VS.nil) ⟨List.nodup_nil, fun _ h => (by cases h)⟩ (by rw [z]; exact span_zero)
  refine ⟨this.1, ?_⟩
  rw [← List.length_map setN, this.2, z]
end Eng

end
section
set_option Elab.async false
set_option linter.all false
set_option maxRecDepth 100000
set_option maxHeartbeats 16000000
set_option autoImplicit false
/-! Eng, part T: to the end of a law, step by step. -/
namespace Eng
open PySem PySem.Spec PyProof.Rows L2

/-- from here on the law comes to True -/
def RT (cl : Calls) (gl : List D) (ss : Ss) (ρ : Eng.Env) (st : Sta) : Prop := ∃ st', execs cl gl ss ρ st = .ok (.ret (.bool true)) st'
section
variable {cl : Calls} {gl : List D} {ρ ρ' ρ1 : Eng.Env} {st st1 st2 : Sta} {ss sa sb : Ss} {i j : Nat} {e a b c : E} {d d1 d2 : D} {o : Bool}
theorem rt_set (h1 : ev cl gl ρ false e st = .ok d st1) (hi : i < ρ.length) (h2 : RT cl gl ss (ρ.set i (.val d)) st1) : RT cl gl (.cons (.set i e) ss) ρ st := by
  obtain ⟨s, h⟩ := h2
  exact ⟨s, x_set h1 hi h⟩
theorem rt_setO {ds : List D} (h1 : ev cl gl ρ false e st = .ok (.list ds) st1) (hi : i < ρ.length) (h2 : RT cl gl ss (ρ.set i (.lst ds)) st1) : RT cl gl (.cons (.setO i e) ss) ρ st := by
  obtain ⟨s, h⟩ := h2
  exact ⟨s, x_setO h1 hi h⟩
theorem rt_ret (h : ev cl gl ρ false e st = .ok (.bool true) st1) : RT cl gl (.cons (.ret e) ss) ρ st := ⟨_, x_ret h⟩
theorem rt_skip {k : Bool} (h1 : ev cl gl ρ false c st = .ok (.bool k) st1) (hk : k = false) (h3 : RT cl gl ss ρ st1) : RT cl gl (.cons (.ite c sa .nil) ss) ρ st := by
  obtain ⟨s, h⟩ := h3
  exact ⟨s, x_skip2 h1 hk h⟩
theorem rt_ite {k : Bool} (h1 : ev cl gl ρ false c st = .ok (.bool k) st1) (h2 : (if k then execs cl gl sa ρ st1 else execs cl gl sb ρ st1) = .ok (.nx ρ1) st2) (h3 : RT cl gl ss ρ1 st2) : RT cl gl (.cons (.ite c sa sb) ss) ρ st := by
  obtain ⟨s, h⟩ := h3
  exact ⟨s, x_ite h1 h2 h⟩
theorem rt_iteP {k : Bool} (Pp : Eng.Env → Sta → Prop) (h1 : ev cl gl ρ false c st = .ok (.bool k) st1) (h2 : ∃ ρ1 st2, (if k then execs cl gl sa ρ st1 else execs cl gl sb ρ st1) = .ok (.nx ρ1) st2 ∧ Pp ρ1 st2) (h3 : ∀ ρ1 st2, Pp ρ1 st2 → RT cl gl ss ρ1 st2) : RT cl gl (.cons (.ite c sa sb) ss) ρ st := by
  obtain ⟨ρ1, st2, h2, hp⟩ := h2
  exact rt_ite h1 h2 (h3 ρ1 st2 hp)
theorem rt_frzL {ds : List D} (hρ : ρ[i]? = some (.lst ds)) (h2 : RT cl gl ss (ρ.set i (.val (.list ds))) st) : RT cl gl (.cons (.frz i) ss) ρ st := by
  obtain ⟨s, h⟩ := h2
  exact ⟨s, x_frzL hρ h⟩
theorem rt_for {α : Type} {tg : Tg} {it : It} {φ : α → D} {xs : List α} (I : List α → List α → Eng.Env → Sta → Prop) (h1 : evIt cl gl ρ false it st = .ok (xs.map φ) st1) (h0 : I [] xs ρ st1)
    (step : ∀ (ys : List α) (x : α) (zs : List α) (ρ : Eng.Env) (st : Sta), xs = ys ++ x :: zs → I ys (x :: zs) ρ st → ∃ ρ1, bindTg tg (φ x) ρ = some ρ1 ∧ ∃ ρ' st', (execs cl gl sb ρ1 st = .ok (.nx ρ') st' ∨ execs cl gl sb ρ1 st = .ok (.ct ρ') st') ∧ I (ys ++ [x]) zs ρ' st')
    (h3 : ∀ ρ' st', I xs [] ρ' st' → RT cl gl ss ρ' st') : RT cl gl (.cons (.for tg it sb) ss) ρ st := by
  obtain ⟨ρ', st', h2, hi⟩ := for_map (tg := tg) (body := execs cl gl sb) I h0 step
  obtain ⟨s, h⟩ := h3 ρ' st' hi
  exact ⟨s, x_for h1 h2 h⟩
theorem xs_for {α : Type} {tg : Tg} {it : It} {φ : α → D} {xs : List α} {r : R Fl} (I : List α → List α → Eng.Env → Sta → Prop) (h1 : evIt cl gl ρ false it st = .ok (xs.map φ) st1) (h0 : I [] xs ρ st1)
    (step : ∀ (ys : List α) (x : α) (zs : List α) (ρ : Eng.Env) (st : Sta), xs = ys ++ x :: zs → I ys (x :: zs) ρ st → ∃ ρ1, bindTg tg (φ x) ρ = some ρ1 ∧ ∃ ρ' st', (execs cl gl sb ρ1 st = .ok (.nx ρ') st' ∨ execs cl gl sb ρ1 st = .ok (.ct ρ') st') ∧ I (ys ++ [x]) zs ρ' st')
    (h3 : ∀ ρ' st', I xs [] ρ' st' → execs cl gl ss ρ' st' = r) : execs cl gl (.cons (.for tg it sb) ss) ρ st = r := by
  obtain ⟨ρ', st', h2, hi⟩ := for_map (tg := tg) (body := execs cl gl sb) I h0 step
  exact x_for h1 h2 (h3 ρ' st' hi)
end
theorem rng_at {n : Nat} {ys zs : List Int} {x : Int} (e : rng n = ys ++ x :: zs) : x = (ys.length : Nat) ∧ ys.length < n := by
  constructor
  · have h1 : (rng n)[ys.length]? = some x := by rw [e, List.getElem?_append_right (Nat.le_refl _)]; simp
    unfold rng at h1
    rw [List.getElem?_map] at h1
    cases q : (List.range n)[ys.length]? with
    | none => rw [q] at h1; cases h1
    | some i =>
      rw [q] at h1
      obtain ⟨q1, q2⟩ := List.getElem?_eq_some_iff.mp q
      rw [List.getElem_range] at q2
      cases h1
      rw [q2]
  · have := congrArg List.length e
    rw [rng_len, List.length_append, List.length_cons] at this
    omega
theorem len_at {α : Type} {xs ys zs : List α} {x : α} (e : xs = ys ++ x :: zs) : ys.length < xs.length := by
  have := congrArg List.length e
  rw [List.length_append, List.length_cons] at this
  omega
theorem dec_nat (a b : Nat) : decide ((a : Int) = (b : Int)) = decide (a = b) := by
  by_cases h : a = b
  · subst h; simp
  · rw [decide_eq_false h, decide_eq_false (by omega)]
theorem mulP {a b : Nat} (ha : a < 2 ^ 100) (hb : b < 2 ^ 100) : binD .mul (.int a) (.int b) = some (.int (a * b : Nat)) := by
  have l : ∀ c : Nat, c < 2 ^ 100 → (c : Int).natAbs.log2 < 100 := fun c hc => by
    rw [Int.natAbs_natCast]
    by_cases z : c = 0
    · subst z
      have : Nat.log2 0 = 0 := by decide +kernel
      omega
    · exact (Nat.log2_lt z).mpr hc
  have h1 := l a ha
  have h2 := l b hb
  show (if (a : Int).natAbs.log2 + (b : Int).natAbs.log2 < 1000000 then some (PyData.int ((a : Int) * (b : Int))) else none) = _
  rw [if_pos (by omega), Int.natCast_mul]
theorem addN (a b : Nat) : binD .add (.int a) (.int b) = some (.int (a + b : Nat)) := by
  rw [addB, Int.natCast_add]
  rfl
theorem Emb.nat : Emb (fun i : Nat => PyData.int i) 0 := ⟨fun _ => rfl, fun x y => by
  have := Emb.int.eq (x : Int) (y : Int)
  rw [this, dec_nat]⟩
def lD (l : List Int) : D := .list (l.map .int)
def tD (l : List Int) : D := .tuple (l.map .int)
theorem c_innLL (x : List Int) (ys : List (List Int)) : cmpD .inn (lD x) (.list (ys.map lD)) = some (decide (x ∈ ys)) := (Emb.int.lst.inL x ys).trans (congrArg some (decide_eq_decide.mpr Iff.rfl))
theorem c_ninLL (x : List Int) (ys : List (List Int)) : cmpD .nin (lD x) (.list (ys.map lD)) = some (!decide (x ∈ ys)) := by
  have h := c_innLL x ys
  show (inD (lD x) (.list (ys.map lD))).map (!·) = _
  rw [show inD (lD x) (.list (ys.map lD)) = some (decide (x ∈ ys)) from h]
  rfl
theorem c_innLT (x : List Int) (ys : List (List Int)) : cmpD .inn (tD x) (.list (ys.map tD)) = some (decide (x ∈ ys)) := (Emb.int.tup.inL x ys).trans (congrArg some (decide_eq_decide.mpr Iff.rfl))
theorem c_ninLT (x : List Int) (ys : List (List Int)) : cmpD .nin (tD x) (.list (ys.map tD)) = some (!decide (x ∈ ys)) := by
  have h := c_innLT x ys
  show (inD (tD x) (.list (ys.map tD))).map (!·) = _
  rw [show inD (tD x) (.list (ys.map tD)) = some (decide (x ∈ ys)) from h]
  rfl
end Eng

end
section
set_option Elab.async false
set_option linter.all false
set_option maxRecDepth 100000
set_option maxHeartbeats 16000000
set_option autoImplicit false
/-! Gex, part E: rules that are checked in order: the first that is broken; slices. -/
namespace Eng
open PySem PySem.Spec PyProof.Rows L2

section
variable {cl : Calls} {gl : List D} {ρ ρ' ρ1 : Eng.Env} {st st1 st2 : Sta} {ss sa sb : Ss} {i j : Nat} {e a b c : E} {d d1 d2 x y z : D} {o : Bool} {r : R Fl}
theorem x_exO (h1 : ev cl gl ρ false e st = .ok d st1) (h2 : execs cl gl ss ρ st1 = r) : execs cl gl (.cons (.ex e) ss) ρ st = r := by
  simp only [execs, exec, h1, R.bind_ok, h2]
theorem x_exC {q : Exn} (h1 : ev cl gl ρ false e st = .exc q st1) : execs cl gl (.cons (.ex e) ss) ρ st = .exc q st1 := by
  simp only [execs, exec, h1, R.bind_exc]
theorem x_req {f : Nat} {e1 e2 : E} {k : Bool} {t : Str} {n : Int} (hcl : ∀ k : Bool, cl f [.bool k, .str t, .int n] st = GexB.requireS [.bool k, .str t, .int n] st) (h1 : ev cl gl ρ (isBor c) c st = .ok (.bool k) st) (h2 : ev cl gl ρ (isBor e1) e1 st = .ok (.str t) st) (h3 : ev cl gl ρ (isBor e2) e2 st = .ok (.int n) st) :
    execs cl gl (.cons (.ex (.call f (.cons c (.cons e1 (.cons e2 .nil))))) ss) ρ st = if k then execs cl gl ss ρ st else .exc (0, [.str t, .int n]) st := by
  have ha : evArgs cl gl ρ (.cons c (.cons e1 (.cons e2 .nil))) st = .ok ([.bool k, .str t, .int n], ownB ρ c || (ownB ρ e1 || (ownB ρ e2 || false))) st := ea_cons h1 (ea_cons h2 (ea_cons h3 ea_nil))
  cases k with
  | true =>
    refine x_exO (d := .none) (e_call ha ((hcl true).trans rfl) ?_) rfl
    simp [noLD]
  | false =>
    refine x_exC ?_
    simp only [ev, ha, R.bind_ok]
    rw [hcl false]
    rfl
theorem e_chain {op p : COp} {k1 k2 : Bool} (ha : ev cl gl ρ true a st = .ok x st) (hb : ev cl gl ρ true b st = .ok y st) (hc : ev cl gl ρ true c st = .ok z st) (h1 : cmpD op x y = some k1) (h2 : cmpD p y z = some k2) : ev cl gl ρ o (.chain op p a b c) st = .ok (.bool (k1 && k2)) st := by
  cases k1 with
  | true => simp only [ev, ha, hb, hc, R.bind_ok, h1, R.of_some, if_true, h2, Option.map_some, Bool.true_and]
  | false => simp only [ev, ha, hb, hc, R.bind_ok, h1, R.of_some, Bool.false_and]; rfl
theorem e_chain3 {op p q : COp} {w : D} {k1 k2 k3 : Bool} (ha : ev cl gl ρ true a st = .ok x st) (hb : ev cl gl ρ true b st = .ok y st) (hc : ev cl gl ρ true c st = .ok z st) (he : ev cl gl ρ true e st = .ok w st) (h1 : cmpD op x y = some k1) (h2 : cmpD p y z = some k2) (h3 : cmpD q z w = some k3) : ev cl gl ρ o (.chain3 op p q a b c e) st = .ok (.bool (k1 && (k2 && k3))) st := by
  cases k1 with
  | true =>
    cases k2 with
    | true => simp only [ev, ha, hb, hc, he, R.bind_ok, h1, R.of_some, if_true, h2, h3, Option.map_some, Bool.true_and]
    | false => simp only [ev, ha, hb, hc, R.bind_ok, h1, R.of_some, if_true, h2, Bool.true_and, Bool.false_and]; rfl
  | false => simp only [ev, ha, hb, hc, R.bind_ok, h1, R.of_some, Bool.false_and]; rfl
theorem it_enumT {xs : List D} (h : ev cl gl ρ o e st = .ok (.tuple xs) st1) : evIt cl gl ρ o (.enum e) st = .ok (enumD 0 xs) st1 := by simp only [evIt, h, R.bind_ok]
theorem it_enumL {xs : List D} (h : ev cl gl ρ o e st = .ok (.list xs) st1) : evIt cl gl ρ o (.enum e) st = .ok (enumD 0 xs) st1 := by simp only [evIt, h, R.bind_ok]
theorem x_forE {tg : Tg} {it : It} {xs : List D} {q : Exn} (h1 : evIt cl gl ρ false it st = .ok xs st1) (h2 : forRun tg (execs cl gl sb) xs ρ st1 = .exc q st2) : execs cl gl (.cons (.for tg it sb) ss) ρ st = .exc q st2 := by
  simp only [execs, exec, h1, R.bind_ok, h2, R.bind_exc]
theorem cut_take {xs : List D} {k : Nat} : cutD xs none (some (k : Int)) = xs.take k := by
  unfold cutD
  rw [HT.sIx_none, HT.sIx_nat, List.drop_zero, Nat.sub_zero, List.take_eq_take_iff]
  omega
theorem cut_drop {xs : List D} {k : Nat} : cutD xs (some (k : Int)) none = xs.drop k := by
  unfold cutD
  rw [HT.sIx_none, HT.sIx_nat]
  by_cases h : k ≤ xs.length
  · rw [Nat.min_eq_left h, List.take_of_length_le (by rw [List.length_drop]; omega)]
  · rw [Nat.min_eq_right (by omega), List.drop_eq_nil_of_le (Nat.le_refl _), List.drop_eq_nil_of_le (by omega)]
    simp
theorem e_takeT {xs : List D} {k : Nat} (h : ev cl gl ρ true a st = .ok (.tuple xs) st) (hk : ev cl gl ρ false b st = .ok (.int (k : Nat)) st) : ev cl gl ρ o (.slice a .none (.some b)) st = .ok (.tuple (xs.take k)) st := by
  simp only [ev, evPart, h, hk, R.bind_ok, sliceD, R.of_some, cut_take]
theorem e_dropT {xs : List D} {k : Nat} (h : ev cl gl ρ true a st = .ok (.tuple xs) st) (hk : ev cl gl ρ false b st = .ok (.int (k : Nat)) st) : ev cl gl ρ o (.slice a (.some b) .none) st = .ok (.tuple (xs.drop k)) st := by
  simp only [ev, evPart, h, hk, R.bind_ok, sliceD, R.of_some, cut_drop]
end

/-! ### the first that is wrong -/
def fb {α : Type} (ok : Option α → α → Bool) : Option α → Nat → List α → Option Nat
  | _, _, [] => none
  | p, i, x :: xs => if ok p x then fb ok (some x) (i + 1) xs else some i
def lastO {α : Type} (p : Option α) : List α → Option α
  | [] => p
  | x :: xs => lastO (some x) xs
theorem lastO_snoc {α : Type} {x : α} : ∀ (p : Option α) (ys : List α), lastO p (ys ++ [x]) = some x
  | _, [] => rfl
  | _, _ :: ys => lastO_snoc _ ys
theorem fb_app {α : Type} {ok : Option α → α → Bool} {zs : List α} : ∀ (p : Option α) (i : Nat) (ys : List α), fb ok p i ys = none → fb ok p i (ys ++ zs) = fb ok (lastO p ys) (i + ys.length) zs
  | _, _, [], _ => rfl
  | p, i, y :: ys, h => by
    unfold fb at h
    by_cases q : ok p y = true
    · rw [if_pos q] at h
      rw [List.cons_append]
      show (if ok p y = true then fb ok (some y) (i + 1) (ys ++ zs) else some i) = fb ok (lastO (some y) ys) (i + (ys.length + 1)) zs
      rw [if_pos q, fb_app (some y) (i + 1) ys h]
      congr 1
      omega
    · rw [if_neg q] at h; cases h
theorem fb_pre {α : Type} {ok : Option α → α → Bool} {zs : List α} : ∀ (p : Option α) (i : Nat) (ys : List α), fb ok p i (ys ++ zs) = none → fb ok p i ys = none
  | _, _, [], _ => rfl
  | p, i, y :: ys, h => by
    rw [List.cons_append] at h
    unfold fb at h ⊢
    by_cases q : ok p y = true
    · rw [if_pos q] at h ⊢
      exact fb_pre _ _ ys h
    · rw [if_neg q] at h; cases h
/-- one more that is wrong -/
theorem fb_bad {α : Type} {ok : Option α → α → Bool} {xs : List α} {x : α} {k : Nat} (h : fb ok none 0 xs = none) (hk : k ≤ xs.length) (hb : ok (lastO none (xs.take k)) x = false) : fb ok none 0 (xs.take k ++ x :: xs.drop k) = some k := by
  have h1 : fb ok none 0 (xs.take k) = none := fb_pre (zs := xs.drop k) none 0 _ (by rw [List.take_append_drop]; exact h)
  rw [fb_app _ _ _ h1]
  unfold fb
  rw [hb, List.length_take, Nat.min_eq_left hk]
  simp
theorem fb_put {α : Type} {ok : α → Bool} {xs : List α} : ∀ (p : Option α) (i : Nat), (∀ x ∈ xs, ok x = true) → fb (fun _ x => ok x) p i xs = none := by
  induction xs with
  | nil => intros; rfl
  | cons x xs ih =>
    intro p i h
    unfold fb
    rw [if_pos (h x (List.mem_cons_self ..))]
    exact ih _ _ fun y hy => h y (List.mem_cons_of_mem _ hy)
def seqM {α : Type} (it : Nat → α → D) : Nat → List α → List D
  | _, [] => []
  | i, x :: xs => it i x :: seqM it (i + 1) xs
theorem seqM_enum {α : Type} {φ : α → D} : ∀ (i : Nat) (xs : List α), enumD i (xs.map φ) = seqM (fun i x => .tuple [.int i, φ x]) i xs
  | _, [] => rfl
  | i, x :: xs => by simp only [List.map_cons, enumD, seqM, seqM_enum (i + 1) xs]
theorem seqM_map {α : Type} {φ : α → D} : ∀ (i : Nat) (xs : List α), xs.map φ = seqM (fun _ x => φ x) i xs
  | _, [] => rfl
  | i, x :: xs => by simp only [List.map_cons, seqM]; rw [← seqM_map (i + 1) xs]
theorem for_fb {α : Type} {it : Nat → α → D} {tg : Tg} {body : Eng.Env → Sta → R Fl} {ok : Option α → α → Bool} {t : Str} {full : List α} {st : Sta} {ρ : Eng.Env} (P : Eng.Env → Prop)
    (step : ∀ (ys : List α) (x : α) (zs : List α) (ρ : Eng.Env), full = ys ++ x :: zs → P ρ → ∃ ρ1, bindTg tg (it ys.length x) ρ = some ρ1 ∧ (ok (lastO none ys) x = true → ∃ ρ', body ρ1 st = .ok (.nx ρ') st ∧ P ρ') ∧ (ok (lastO none ys) x = false → body ρ1 st = .exc (0, [.str t, .int (ys.length : Nat)]) st))
    (hP : P ρ) : (fb ok none 0 full = none → ∃ ρ', forRun tg body (seqM it 0 full) ρ st = .ok (.nx ρ') st ∧ P ρ') ∧ ∀ k, fb ok none 0 full = some k → forRun tg body (seqM it 0 full) ρ st = .exc (0, [.str t, .int (k : Nat)]) st := by
  have key : ∀ (zs ys : List α) (ρ : Eng.Env), full = ys ++ zs → P ρ → (fb ok (lastO none ys) ys.length zs = none → ∃ ρ', forRun tg body (seqM it ys.length zs) ρ st = .ok (.nx ρ') st ∧ P ρ') ∧ ∀ k, fb ok (lastO none ys) ys.length zs = some k → forRun tg body (seqM it ys.length zs) ρ st = .exc (0, [.str t, .int (k : Nat)]) st := by
    intro zs
    induction zs with
    | nil => exact fun ys ρ e h => ⟨fun _ => ⟨ρ, rfl, h⟩, fun k h => by cases h⟩
    | cons z zs ih =>
      intro ys ρ e h
      obtain ⟨ρ1, hb, h1, h2⟩ := step ys z zs ρ e h
      have el : (ys ++ [z]).length = ys.length + 1 := by simp
      cases q : ok (lastO none ys) z with
      | true =>
        obtain ⟨ρ', hx, hp⟩ := h1 q
        have := ih (ys ++ [z]) ρ' (by rw [e]; simp) hp
        rw [lastO_snoc, el] at this
        have ef : fb ok (lastO none ys) ys.length (z :: zs) = fb ok (some z) (ys.length + 1) zs := by
          show (if ok (lastO none ys) z = true then _ else _) = _
          rw [if_pos q]
        have er : forRun tg body (seqM it ys.length (z :: zs)) ρ st = forRun tg body (seqM it (ys.length + 1) zs) ρ' st := by
          simp only [seqM, forRun, hb, hx, R.bind_ok]
        rw [ef, er]
        exact this
      | false =>
        have hx := h2 q
        have ef : fb ok (lastO none ys) ys.length (z :: zs) = some ys.length := by
          show (if ok (lastO none ys) z = true then _ else _) = _
          rw [q]; rfl
        have er : forRun tg body (seqM it ys.length (z :: zs)) ρ st = .exc (0, [.str t, .int (ys.length : Nat)]) st := by
          simp only [seqM, forRun, hb, hx, R.bind_exc]
        rw [ef, er]
        exact ⟨fun h => (by cases h), fun k h => (by cases h; rfl)⟩
  exact key full [] ρ rfl hP
end Eng

end
section
set_option Elab.async false
set_option linter.all false
set_option maxRecDepth 100000
set_option maxHeartbeats 16000000
/-! Gex, part F: isinstance(e, C), e a caught exception that has fields. -/
namespace PySem.W
open PySem PySem.Spec PySem.Calls PyProof.Rows
section
variable {prog : Program} {w : World} {A : Around} {E : Value → Shared → Prop} {s : Shared} {K : Frag} {x D : Addr} {ox : Obj} {od : Option Obj}
theorem gf_find (cl : (clsIn K D).isSome = true) {n : Str} {a g : Value} (f : findIn K (.ref D) n = some (some a)) (sp : specialIn K a "__get__" = some (some g)) (tk : takesIn K a = some true) : findObj K D od n = some (.bind g a) := by
  obtain ⟨c, e⟩ := Option.isSome_iff_exists.mp cl
  unfold findObj
  rw [e, Option.bind_some, f, Option.bind_some]
  simp [sp, tk]
theorem gf_class {Q : Option Value → Shared → Prop} (T : L2.ExcC K D) (hK : K.In s.heap) (I : InstAt s.heap x ox D od) (q : Q (some (.ref D)) { s with toks := s.toks + 1 }) : wpAny (model prog w) A (getAttr? (.ref x) "__class__") Q E s := by
  have isC : (clsIn K D).isSome = true := by
    obtain ⟨c, e, _⟩ := any_some T.hd
    rw [e]; rfl
  have ff : findObj K D od "__class__" = some (.bind (.builtin "getset_descriptor.__get__") (.builtin "object.__class__")) := gf_find isC T.ha T.hn T.ht
  obtain ⟨h0, g0, d0, t0, o0⟩ := s
  have la := I.type (M := model prog w)
  have lb := looks_findIn (M := model prog w) hK T.hg
  have lc := looks_findIn (M := model prog w) hK T.hk
  have ld := looks_find (M := model prog w) hK I ff
  have le : Looks (model prog w) h0 (isInstance (.ref x) (.type "BaseException")) true := la.andThen (looks_subIn hK T.hs)
  have n1 : (false && onTheHeap (Value.builtin "BaseException.__getattribute__")) = false := rfl
  have n2 : (Value.builtin "BaseException.__getattribute__" == Value.builtin "object.__getattribute__") = false := by decide +kernel
  have n3 : (onTheHeap (Value.ref D) && Value.builtin "BaseException.__getattribute__" == Value.builtin "object.__getattribute__") = false := by rw [n2]; rfl
  unfold getAttr? getAttrBy? getAttrBy
  refine wpAny_bind (wpAny_mkText (wpAny_bind (wpAny_attempt (wpAny_holding (wpAny_bind (la.at (wpAny_bind (lb.at ?_))))))))
  show wpAny _ _ (ite ((onTheHeap (Value.ref D) && Value.builtin "BaseException.__getattribute__" == Value.builtin "object.__getattribute__") = true) _ _) _ _ _
  rw [n3, if_neg Bool.false_ne_true]
  unfold getAttrByItsOwn hookBefore
  refine wpAny_bind ?_
  rw [if_pos (show onTheHeap (Value.ref D) = true from rfl)]
  refine lc.at ?_
  refine wpAny_bind (wpAny_attempt (wpAny_holding ?_))
  unfold callGetattribute
  rw [n1, if_neg Bool.false_ne_true]
  unfold boundAndCalled
  rw [PySem.F.excAttr_ValueError.ga.bind (.ref x)]
  refine wpAny_bind (wpAny_pure ?_)
  show wpAny _ _ (call (.builtin "BaseException.__getattribute__") [.ref x, .str "__class__" t0]) _ _ _
  refine wpAny_call (codeAny_call_builtin PySem.F.excAttr_ValueError.ga.plain PySem.F.entry_bexc_ga ?_)
  refine @check_slot (model prog w) _ _ ⟨h0, g0, d0, t0 + 1, o0⟩ "BaseException.__getattribute__" "BaseException" "__getattribute__" (.ref x) [.str "__class__" t0] [] _ (by decide +kernel) (by decide +kernel) le (PySem.F.args_bexc_ga (.ref x) (.str "__class__" t0)) ?_
  unfold Builtin.«object.__getattribute__»
  refine wpAny_bind (wpAny_of_eq (a := ((Value.ref x : Value), [Value.str "__class__" t0])) (by first | rfl | (simp only [slotArgs]; rfl)) ?_)
  refine wpAny_bind (wpAny_pure (wpAny_bind (la.at (wpAny_bind (ld.at ?_)))))
  show wpAny _ _ (holding [Value.builtin "object.__class__"] (call (.builtin "getset_descriptor.__get__") [.builtin "object.__class__", .ref x, .ref D]) >>= ret) _ _ _
  refine wpAny_bind (wpAny_holding (wpAny_call (class_get (s := ⟨h0, g0, d0, t0 + 1, o0⟩) (ox := ox) (od := od) hK I T.hm ?_)))
  refine wpAny_pure ?_
  show wpAny _ _ (handedOut (.ref D)) _ _ _
  rw [handedOut_of (v := .ref D) rfl]
  first
    | exact wpAny_pure (wpAny_pure q)
    | exact wpAny_pure q
    | exact wpAny_pure (wpAny_bind (wpAny_pure (wpAny_pure q)))
theorem gf_kit (T : L2.ExcC K D) : KitX K (.ref x) (.ref D) (fun h => InstAt h x ox D od) where
  ty := fun _ _ _ I => I.type
  it := fun _ _ X _ => by
    obtain ⟨c, hc, _⟩ := any_some T.hd
    unfold clsIn at hc
    split at hc
    · rename_i c' d' cd' sl' ho
      intro A' Q' E' s' k q
      unfold isType loadHead
      exact wpAny_bind (wpAny_loadPart (k _ _ (X _ _ ho)) (wpAny_pure q))
    · cases hc
  ne := fun h tp dd its n sl X htp => by
    obtain ⟨c, hc, _⟩ := any_some T.hd
    refine Bool.eq_false_iff.mpr fun z => ?_
    have e : D = tp := Value.ref.inj (beq_iff_eq.mp z)
    subst e
    unfold clsIn at hc
    split at hc
    · rename_i c' d' cd' sl' ho
      cases (X _ _ ho).symm.trans htp
    · cases hc
  ca := fun X I k => gf_class T X I k
end
end PySem.W
namespace GexB
open PySem PySem.Spec PyProof.Rows L2 Eng
theorem kit_sub {K : PySem.W.Frag} {C D : Addr} {b : Bool} (h1 : PySem.W.isClsIn K D = true) (h2 : PySem.W.typeIn K (.ref D) = some (.type "type")) (h3 : PySem.W.subIn K (.ref C) (.ref D) = some b) (h4 : PySem.W.subIn K (.ref C) (.ref C) = some true) : PySem.W.kitOne K (.ref C) (.ref D) = some b := by
  unfold PySem.W.kitOne
  by_cases e : C = D
  · subst e
    rw [h4] at h3
    rw [if_pos (by simp)]
    exact h3
  · rw [if_neg (fun z => e (Value.ref.inj (beq_iff_eq.mp z)))]
    show (if ((PySem.W.clsIn K D).isSome && PySem.W.typeIn K (.ref D) == some (.type "type")) = true then PySem.W.subIn K (.ref C) (.ref D) else none) = some b
    have h1' : (PySem.W.clsIn K D).isSome = true := h1
    rw [h1', h2]
    exact h3
/-- isinstance(e, c), e the caught exception with its fields -/
def rIsG (K : PySem.W.Frag) (C a : Addr) (cls : Value) (d : Option Addr) : List V → Hp → VK → Prop := fun xs H Q => ∃ (c : V) (u : Value) (b : Bool), xs = [.ref a, c] ∧ (∀ v, RelV c v → v = u) ∧ PySem.W.kitOne K (.ref C) u = some b ∧ cls = .ref C ∧ (∃ (dd : Addr) (r i : V), d = some dd ∧ H dd = some (.xd (geFs r i))) ∧ Q (.bl b) H
theorem call_isG {X : Cx} {a C : Addr} {oe : Obj} {cls : Value} {d : Option Addr} {pn : List (Addr × Obj)} (T : ExcC X.K C) (hz : Zc cls d oe) (hf : ∃ vs, oe.data = .fields vs) : CallR (X.suite a ((a, oe) :: pn)) (.builtin "isinstance") (rIsG X.K C a cls d) := by
  intro pins s σ H xs us Q I r h
  obtain ⟨c, u, b, rfl, hcv, e, rfl, ⟨dd, rr, ii, rfl, hdd⟩, q⟩ := h
  cases r with
  | cons rx rt =>
    cases rt with
    | cons rc rn =>
      cases rn
      cases rx
      cases hcv _ rc
      obtain ⟨hget, _⟩ := I.pin (a, oe) (List.mem_append.mpr (.inl List.mem_cons_self))
      obtain ⟨vs, hv⟩ := hf
      have hx : ObjOk X.prog X.w H s.heap dd (.xd (geFs rr ii)) := I.hok dd _ hdd
      obtain ⟨mA, hns, _⟩ := hx
      obtain ⟨od, ho, _⟩ := lookIn_ns hns
      have J : PySem.W.InstAt s.heap a oe C (some od) := ⟨hget, hz.1, by unfold PySem.W.notCls; rw [hv] <;> rfl, by rw [hz.2]; exact ho⟩
      exact PySem.W.kia_one (PySem.W.gf_kit T) I.kIn J e (fun z => nomatch z) fun tk => ⟨.bl b, H, I.kept (t' := tk) fun _ _ z => z, rfl, q⟩
end GexB

end
section
set_option Elab.async false
set_option linter.all false
set_option maxRecDepth 100000
set_option maxHeartbeats 2000000
/-! GenEnd: the end of a law whose defs hold generator expressions: each def of the text has an empty table. -/
namespace GenEnd
open PySem PySem.Spec PyProof.Rows L2 LamX
/-- all defs of the text have empty tables in h -/
def Bare (K : PySem.W.Frag) (mg : Str → Option Value) (q : Program) (h : Heap) : Prop :=
  ∀ (x : Str) (f : Addr), ((recsOf q).any fun e => e.name == x) = true → mg x = some (.ref f) → OwnTab K f h
theorem walk_ofGen {l : PySem.W.OpenLaw} {n k : Nat} {q : Program} {loose : List Str} {XP : (Str → Option Value) → Heap → Prop} {YP : World → Heap → Prop} {d : DefRec} {K : Params → PySem.W.Frag} {CX : World → CXT} {x : Str}
    (hn : l.most = some n) (small : n ≤ sizeLine) (plain : d.params.defaults = []) (room : Room k callerA) (kin : ∀ (w : World) (h : Heap), YP w h → (K w.params).In h)
    (F : ∀ (w : World) (mg : Str → Option Value) (fa : Addr) (h : Heap), (K w.params).In h → h.Ns mainGlobals mg → mg d.name = some (.ref fa) → Bare (K w.params) mg q h → LawAtS l w (K w.params) (CX w) k n x mg fa h)
    (noX : ∀ (w : World) (H : Hp) (s : Shared) (e : Value) (s' : Shared), CX w [] H s (fun _ _ _ => False) e s' → False) :
    PySem.W.WalkO q loose XP YP l.row.toRowW d [] (fun f vs => PySem.call f vs) :=
  Att.attach_callB hn plain fun w s₀ s₁ mg mb fa o pm cd doc a vs ns gr y _ _ _ named isL inl short bits nog => by
    have inn := kin w _ y
    have bare : Bare (K w.params) mg q s₁.heap := by
      intro z f hz hf c P ob fdat e dd fs sl q1 q2 q3 q4 q5
      obtain ⟨r, mem, same⟩ := List.any_eq_true.mp hz
      obtain rfl : r.name = z := eq_of_beq same
      obtain ⟨a', o', g', c', P', t1, t2, t3, t4, -, ⟨⟨oc, us, u1, -, u3, u4⟩, hP⟩⟩ := gr.T.tab r mem
      obtain rfl : f = a' := by
        have := hf.symm.trans t1
        cases this
        rfl
      have := (inn _ _ q1).symm.trans t2
      cases this
      have := q2.symm.trans t3
      cases this
      have := q3.symm.trans t4
      cases this
      have := (inn _ _ q4).symm.trans u1
      cases this
      cases u3
      have := q5.symm.trans u4
      cases this
      exact hP
    obtain ⟨fd, cs, sp, m1, m2, m3, m4, m5, m6⟩ := F w mg fa _ inn gr.T.g named bare
    exact law_callTs inn gr.T.g gr.T.b gr.T.builtins gr.T.nolimit nog m1 m2 m3 gr.T.bmain isL inl (Nat.le_trans short small) room m6 m4 (fun H g1 g2 => m5 H a ns short bits g1 g2) fun H e s' => noX w H s₁ e s'
theorem tabG_of {H : Hp} {P : Addr} (h : H P = some (.tbl #[])) : GxR.TabG H P := ⟨#[], h, True.intro⟩
theorem tabB_to {base : Heap} {mg : Str → Option Value} {c P : Addr} (h : LamX.TabB base mg c P) : GxR.TabB base mg c P := ⟨h.code, h.bm, h.gP⟩
end GenEnd

end
section
set_option Elab.async false
set_option linter.all false
set_option maxRecDepth 100000
set_option maxHeartbeats 2000000
/-! RepEnd: the end of a law that says repr: its call is known from the caller alone, under whom no repr is under way. -/
namespace RepEnd
open PySem PySem.Spec PyProof.Rows L2 LamX GenEnd
def emptyT : Obj := { cls := .none, data := .fields #[] }
/-- the law's call -/
def Calls (P : Program) (w : World) (K : PySem.W.Frag) (mg : Str → Option Value) (fa : Addr) (cs : List (Addr × Addr)) (good : List Int → Prop) : Prop :=
  ∀ (base : Heap) (H : Hp) (s : Shared) (a : Addr) (ns : List Int), good ns → K.In base → base.Ns mainGlobals mg → (∀ p ∈ cs, LamX.TabB base mg p.1 p.2) → (∀ p ∈ cs, H p.2 = some (.tbl #[])) → SqL K H a (ns.map V.int) → Env0 P w K mg base callerA [] s H →
    codeAny (model P w) callerA (.call (.ref fa) ⟨[.ref a], []⟩) (CR (L2.CX P w) [] P w H s (fun v _ => v = .bl true) fun _ _ _ => False) s
section
variable {P : Program} {w : World} {K : PySem.W.Frag} {mg mb : Str → Option Value} {fa a : Addr} {cs : List (Addr × Addr)} {good : List Int → Prop} {s : Shared} {vs : List Value} {ns : List Int}
/-- what is tracked as the law begins -/
def H1 (K : PySem.W.Frag) (cs : List (Addr × Addr)) (a : Addr) (ob : Obj) (ns : List Int) : Hp := fun b =>
  if b ∈ cs.map Prod.snd then some (.tbl #[]) else if b = a ∧ K.lookup a = none then some (.frz ob (.lst (ns.map V.int))) else none
theorem begins (kin : K.In s.heap) (gN : s.heap.Ns mainGlobals mg) (bN : s.heap.Ns builtinsNs mb) (boot : ∀ x : Str, x ≠ "__name__" → mb x = bootBuiltins x) (lim : s.heap.NoLimit) (gens : s.gens = #[])
    (hT : ∀ p ∈ cs, s.heap.get? p.2 = some emptyT) (nT : ∀ p ∈ cs, K.lookup p.2 = none) (hC : ∀ p ∈ cs, PySem.W.CodeHd s.heap p.1 p.2)
    (bmod : ∃ (bm : Addr) (ob : Obj), mg "__builtins__" = some (.ref bm) ∧ bm ≠ builtinsNs ∧ s.heap.get? bm = some ob ∧ ob.cls = .type "module" ∧ ob.dict = some builtinsNs ∧ ob.data = .plain)
    (ha : s.heap.get? a = some { cls := .type "list", data := .seq vs.toArray }) (areI : IntsAre vs ns) (short : ns.length ≤ sizeLine) (hg : good ns) (F : Calls P w K mg fa cs good) :
    codeAny (model P w) callerA (.call (.ref fa) ⟨[.ref a], []⟩) (fun r s' => r = .ok (.ret (.bool true)) ∧ OldK s.heap s'.heap ∧ s'.os = s.os ∧ AllBare s'.gens) s := by
  let tabs := cs.map Prod.snd
  let ob : Obj := { cls := .type "list", data := .seq vs.toArray }
  have tab_at : ∀ b ∈ tabs, s.heap.get? b = some emptyT := fun b hb => by
    obtain ⟨p, hp, rfl⟩ := List.mem_map.mp hb
    exact hT p hp
  have in_tabs : ∀ p ∈ cs, p.2 ∈ tabs := fun p hp => List.mem_map.mpr ⟨p, hp, rfl⟩
  have not_tab : a ∉ tabs := fun z => by
    have e := (tab_at a z).symm.trans ha
    unfold emptyT at e
    simp at e
  have vals := vals_ints areI
  have lens := areI.length
  let H := H1 K cs a ob ns
  have H_tab : ∀ b ∈ tabs, H b = some (.tbl #[]) := fun b hb => if_pos hb
  have H_other : ∀ b, b ∉ tabs → ¬ (b = a ∧ K.lookup a = none) → H b = none := fun b n1 n2 => (if_neg n1).trans (if_neg n2)
  have H_list : K.lookup a = none → H a = some (.frz ob (.lst (ns.map V.int))) := fun z => (if_neg not_tab).trans (if_pos ⟨rfl, z⟩)
  have hok : HOk P w H s.heap := fun b u e => by
    by_cases b1 : b ∈ tabs
    · cases (H_tab b b1).symm.trans e
      exact tab_at b b1
    · by_cases b2 : b = a ∧ K.lookup a = none
      · obtain ⟨rfl, z⟩ := b2
        cases (H_list z).symm.trans e
        exact ⟨ha, by rw [List.length_map]; exact short, vs, _, vals, ha⟩
      · cases (H_other b b1 b2).symm.trans e
  -- what is neither a table nor a list stays in sight
  have free : ∀ {b : Addr} {o : Obj}, s.heap.get? b = some o → o.data ≠ .fields #[] → (∀ us m, o.data ≠ .seq us m) → H b = none := fun {b o} e n1 n2 => by
    refine H_other b (fun z => ?_) fun z => ?_
    · cases (tab_at b z).symm.trans e
      exact n1 rfl
    · rw [z.1] at e
      cases ha.symm.trans e
      exact n2 _ _ rfl
  have seen : ∀ {b : Addr} {o : Obj}, s.heap.get? b = some o → o.data ≠ .fields #[] → (∀ us m, o.data ≠ .seq us m) → (hidT s.heap H).get? b = some o := fun e n1 n2 => hidT_get e (free e n1 n2)
  have names : ∀ {b : Addr} {m : Str → Option Value}, s.heap.Ns b m → (hidT s.heap H).Ns b m := fun {b m} ⟨o, es, ep, e, d, r⟩ =>
    ⟨o, es, ep, seen e (by rw [d]; exact fun z => nomatch z) (by rw [d]; exact fun _ _ z => nomatch z), d, r⟩
  have kin' : K.In (hidT s.heap H) := fun b o e => hidT_get (kin b o e) (by
    refine H_other b (fun z => ?_) fun z => ?_
    · obtain ⟨p, hp, rfl⟩ := List.mem_map.mp z
      cases (nT p hp).symm.trans e
    · rw [z.1, z.2] at e
      cases e)
  have mod : L2.Mod K mg (hidT s.heap H) := ⟨kin', names gN, ⟨mb, names bN, boot⟩, let ⟨mc, g1, g2⟩ := lim; ⟨mc, names g1, g2⟩⟩
  have tabB : ∀ p ∈ cs, LamX.TabB (hidT s.heap H) mg p.1 p.2 := fun p hp => by
    refine ⟨?_, ?_, fun z => ?_⟩
    · obtain ⟨o, us, file, tf, flags, tg, inF, text, tt, e1, r1, r2, r3, r⟩ := hC p hp
      refine ⟨o, us, file, tf, flags, tg, inF, text, tt, seen e1 (fun z => ?_) (by rw [r2]; exact fun _ _ z => nomatch z), r1, r2, r3, r⟩
      rw [r2] at z
      cases z
      simp at r3
    · obtain ⟨bm, om, b1, b2, b3, b4, b5, b6⟩ := bmod
      refine ⟨bm, om, b1, b2, fun q => ?_, fun q => ?_, seen b3 (by rw [b6]; exact fun z => nomatch z) (by rw [b6]; exact fun _ _ z => nomatch z), b4, b5, b6⟩
      · obtain ⟨o, es, ep, e, d, _⟩ := gN
        rw [q, e] at b3
        cases b3
        rw [d] at b6
        cases b6
      · rw [q, hT p hp] at b3
        cases b3
        cases b6
    · obtain ⟨o, es, ep, e, d, _⟩ := gN
      rw [z, hT p hp] at e
      cases e
      cases d
  have script : SqL K H a (ns.map V.int) := by
    cases q : K.lookup a with
    | none => exact .inl (.inr ⟨ob, H_list q⟩)
    | some o =>
      cases ha.symm.trans (kin a o q)
      exact .inr ⟨_, vs.toArray, _, q, rfl, rfl, rfl, by rw [List.size_toArray, lens]; exact short, by simpa using vals⟩
  have env : Env0 P w K mg (hidT s.heap H) callerA [] s H := ⟨rfl, mod, fun b o e => of_hidT e, Nat.le_of_eq (hidT_size _ _), trivial, fun b hb => absurd (show b ∈ ([] : List Addr) from hb) (by simp), hok, .of_eq gens⟩
  refine codeAny_mono (F (hidT s.heap H) H s a ns hg kin' (names gN) tabB (fun p hp => H_tab _ (in_tabs p hp)) script env) fun r s' h => ?_
  match r, h with
  | .error e, h =>
    obtain ⟨_, _, _, _, _, _, _, _, _, _, _, _, z⟩ := h
    exact z.elim
  | .ok .next, h => exact False.elim h
  | .ok .brk, h => exact False.elim h
  | .ok .cont, h => exact False.elim h
  | .ok (.ret u), h =>
    obtain ⟨v, H', os, bare, un, hok', rv, q⟩ := h
    subst q
    obtain rfl : u = Value.bool true := rv
    have old : ∀ b o, b ∉ tabs → s.heap.get? b = some o → s'.heap.get? b = some o := fun b o nb e => by
      by_cases b2 : b = a ∧ K.lookup a = none
      · obtain ⟨rfl, z⟩ := b2
        have e1 := (hok' _ _ (un.frzs b ob _ (H_list z))).1
        cases ha.symm.trans e
        exact e1
      · exact un.keep b o e (H_other b nb b2) (by intro z; exact absurd (show b ∈ ([] : List Addr) from z) (by simp)) (by simp)
    have grown : ∀ p ∈ cs, ∃ more : Array Value, s'.heap.get? p.2 = some { cls := .none, data := .fields more } := fun p hp => by
      obtain ⟨more, z⟩ := un.tbls p.2 #[] (H_tab _ (in_tabs p hp))
      exact ⟨_, hok' p.2 _ z⟩
    refine ⟨rfl, ⟨fun b o e => ?_, fun b o e => ?_⟩, os, bare⟩
    · by_cases hb : b ∈ tabs
      · obtain ⟨p, hp, rfl⟩ := List.mem_map.mp hb
        obtain ⟨more, hm⟩ := grown p hp
        cases (hT p hp).symm.trans e
        exact .inr (.inl ⟨((hC p hp).tab (hT p hp)).isCodeTable, rfl, #[], more, rfl, by rw [Array.empty_append]; exact hm⟩)
      · exact .inl (old b o hb e)
    · by_cases hb : b ∈ tabs
      · obtain ⟨p, hp, rfl⟩ := List.mem_map.mp hb
        obtain ⟨more, hm⟩ := grown p hp
        exact ⟨_, hm⟩
      · exact ⟨o, old b o hb e⟩
end
/-- what is known of the law at the head's heap h -/
def LawAtR (l : PySem.W.OpenLaw) (w : World) (K : PySem.W.Frag) (n : Nat) (mg : Str → Option Value) (fa : Addr) (h : Heap) : Prop :=
  ∃ cs : List (Addr × Addr), (∀ p ∈ cs, h.get? p.2 = some emptyT) ∧ (∀ p ∈ cs, K.lookup p.2 = none) ∧ (∀ p ∈ cs, PySem.W.CodeHd h p.1 p.2) ∧ Calls l.prog w K mg fa cs fun ns => ns.length ≤ n
theorem walk_ofRep {l : PySem.W.OpenLaw} {n : Nat} {q : Program} {loose : List Str} {XP : (Str → Option Value) → Heap → Prop} {YP : World → Heap → Prop} {d : DefRec} {K : Params → PySem.W.Frag}
    (hn : l.most = some n) (small : n ≤ sizeLine) (plain : d.params.defaults = []) (kin : ∀ (w : World) (h : Heap), YP w h → (K w.params).In h)
    (F : ∀ (w : World) (mg : Str → Option Value) (fa : Addr) (h : Heap), (K w.params).In h → h.Ns mainGlobals mg → mg d.name = some (.ref fa) → Bare (K w.params) mg q h → LawAtR l w (K w.params) n mg fa h) :
    PySem.W.WalkO q loose XP YP l.row.toRowW d [] (fun f vs => PySem.call f vs) :=
  Att.attach_callB hn plain fun w s₀ s₁ mg mb fa o pm cd doc a vs ns gr y _ _ _ named isL inl short bits nog => by
    have inn := kin w _ y
    have bare : Bare (K w.params) mg q s₁.heap := by
      intro z f hz hf c P ob fdat e dd fs sl q1 q2 q3 q4 q5
      obtain ⟨r, mem, same⟩ := List.any_eq_true.mp hz
      obtain rfl : r.name = z := eq_of_beq same
      obtain ⟨a', o', g', c', P', t1, t2, t3, t4, -, ⟨⟨oc, us, u1, -, u3, u4⟩, hP⟩⟩ := gr.T.tab r mem
      obtain rfl : f = a' := by
        have := hf.symm.trans t1
        cases this
        rfl
      have := (inn _ _ q1).symm.trans t2
      cases this
      have := q2.symm.trans t3
      cases this
      have := q3.symm.trans t4
      cases this
      have := (inn _ _ q4).symm.trans u1
      cases this
      cases u3
      have := q5.symm.trans u4
      cases this
      exact hP
    obtain ⟨cs, m1, m2, m3, m4⟩ := F w mg fa _ inn gr.T.g named bare
    exact begins inn gr.T.g gr.T.b gr.T.builtins gr.T.nolimit nog m1 m2 m3 gr.T.bmain isL inl (Nat.le_trans short small) short m4
/-- a def's call from the caller, by its body -/
theorem run_at {P : Program} {w : World} {K : PySem.W.Frag} {mg : Str → Option Value} {base : Heap} {x y qual : Str} {st : Stmt} {f a : Addr} {fd : FuncData} {N : List Str} {k : Nat} {s : Shared} {H : Hp} {Q : VK} {E : XK} (Fu : Fun K x qual st f fd) (S : FnScope N [y] (defScope st)) (bind : ∀ (s : Shared) (u : Value), BindsTo s fd ⟨[u], []⟩ [(y, u)])
    (room : Room (k + 1) callerA) (e0 : Env0 P w K mg base callerA [] s H)
    (body : ∀ cdv : Value, ∃ t, PSs (cxOf (L2.CX P w) P w K mg base N qual (defScope st) f cdv callerA [] s H E) (defBody st) t ∧ t { nx := fun _ H' => Q .non H', rt := Q } (L2.start N [.ref a]) H) :
    codeAny (model P w) callerA (.call (.ref f) ⟨[.ref a], []⟩) (CR (L2.CX P w) [] P w H s Q E) s := by
  obtain ⟨oc, od, kV, doc, pm, an, cdv, ct, osl, rfl, lk, hcd⟩ := Fu.ex
  obtain ⟨t, ht, hq⟩ := body cdv
  have seen : K.In s.heap := e0.mod.kin.keeps fun b o e => (e0.bs b o e).1
  have nolim : s.heap.NoLimit := e0.mod.nolimit.keeps fun b o e => (e0.bs b o e).1
  have kinds : ∀ z ∈ [y].zip [Value.ref a], (defScope st).names.lookup z.1 = some .local ∨ ((defScope st).names.lookup z.1 = some .cell ∧ ((cellsFrom (s.heap.objs.size + 1) (defScope st).names []).lookup z.1).isSome = true) := fun ⟨n, u⟩ hz =>
    (S.par n (List.of_mem_zip hz).1).imp id fun q => ⟨q, PySem.W.cellsFrom_some _ _ _ (.inl q)⟩
  refine codeAny_call_function room.depth (seen _ _ lk) rfl S.co S.gen rfl (PySem.W.codeRec_of seen hcd) (bind s (.ref a) _ _ _ _ (wpAny_newFunctionEnv_cells S.kind kinds fun env he s1 ic => ?_))
  subst he
  refine ⟨nolim.keeps ic.toInCall.keep, codeAny_func (wpAny_mono (ht.run [] s1 (L2.start N [.ref a]) H _ (inv_start S room.hd e0 rfl (.cons rfl .nil) ic) hq) (fun fl s' hs => ?_) fun e s' hs => hs)⟩
  match fl, hs with
  | .ret u, ⟨v, σ', H', J, rv, q⟩ => exact ⟨v, H', J.os, J.bare, J.base, J.hok, rv, q⟩
  | .next, ⟨σ', H', J, q⟩ => exact ⟨.non, H', J.os, J.bare, J.base, J.hok, rfl, q⟩
  | .brk, ⟨_, _, _, q⟩ => exact q.elim
  | .cont, ⟨_, _, _, q⟩ => exact q.elim
end RepEnd

end
section
set_option Elab.async false
set_option linter.all false
set_option maxRecDepth 100000
set_option maxHeartbeats 16000000
namespace L_k04
open PySem PySem.Spec PyProof.Rows L2 Eng
def topS (i : Nat) : Stmt := PySem.Challenge.pw_everybranch_k04_whole_flows_and_barriers.main.body.getD i (.Pass ⟨0, 0, 0, 0⟩)
def gls : List Str := []
def gl : List D := []
abbrev s_neighbours : Stmt := topS 1
theorem sc_neighbours : FnScope ["graph", "vertex", "found", "one", "other"] ["graph", "vertex"] (defScope s_neighbours) := ⟨rfl, rfl, rfl, by decide +kernel, rfl, by decide +kernel, by decide +kernel⟩
def b_neighbours : Ss :=
 (.cons (.set 2 (.comp [("one", 3), ("other", 4)] (.tup (.cons (.name 3) (.cons (.name 4) .nil))) (.seq (.idx (.var 0) (.const (.int 1)))) (.some (.cmp .eq (.var 3) (.var 1))) (.var 4))) (.cons (.ret (.bi .tuple (.bi .sorted (.bin .add (.var 2) (.comp [("one", 3), ("other", 4)] (.tup (.cons (.name 3) (.cons (.name 4) .nil))) (.seq (.idx (.var 0) (.const (.int 1)))) (.some (.cmp .eq (.var 4) (.var 1))) (.var 3)))))) .nil))
def fd_neighbours : FD := { name := "neighbours", ps := ["graph", "vertex"], N := ["graph", "vertex", "found", "one", "other"], st := s_neighbours, body := b_neighbours }
abbrev s_mask_of : Stmt := topS 3
theorem sc_mask_of : FnScope ["some", "member"] ["some"] (defScope s_mask_of) := ⟨rfl, rfl, rfl, by decide +kernel, rfl, by decide +kernel, by decide +kernel⟩
def b_mask_of : Ss :=
 (.cons (.ret (.bi .sum (.comp [("member", 1)] (.name 1) (.seq (.var 0)) .none (.bin .shl (.const (.int 1)) (.var 1))))) .nil)
def fd_mask_of : FD := { name := "mask_of", ps := ["some"], N := ["some", "member"], st := s_mask_of, body := b_mask_of }
abbrev s_members : Stmt := topS 4
theorem sc_members : FnScope ["mask", "member"] ["mask"] (defScope s_members) := ⟨rfl, rfl, rfl, by decide +kernel, rfl, by decide +kernel, by decide +kernel⟩
def b_members : Ss :=
 (.cons (.ret (.bi .tuple (.comp [("member", 1)] (.name 1) (.rng1 (.bits (.var 0))) (.some (.cmp .eq (.bin .mod (.bin .shr (.var 0) (.var 1)) (.const (.int 2))) (.const (.int 1)))) (.var 1)))) .nil)
def fd_members : FD := { name := "members", ps := ["mask"], N := ["mask", "member"], st := s_members, body := b_members }
abbrev s_parity : Stmt := topS 5
theorem sc_parity : FnScope ["mask"] ["mask"] (defScope s_parity) := ⟨rfl, rfl, rfl, by decide +kernel, rfl, by decide +kernel, by decide +kernel⟩
def b_parity : Ss :=
 (.cons (.ret (.bin .mod (.bi .len (.call 2 (.cons (.var 0) .nil))) (.const (.int 2)))) .nil)
def fd_parity : FD := { name := "parity", ps := ["mask"], N := ["mask"], st := s_parity, body := b_parity }
abbrev s_reduced : Stmt := topS 6
theorem sc_reduced : FnScope ["basis", "row", "bit", "other", "more"] ["basis", "row", "bit"] (defScope s_reduced) := ⟨rfl, rfl, rfl, by decide +kernel, rfl, by decide +kernel, by decide +kernel⟩
def b_reduced : Ss :=
 (.cons (.whl (.and (.cmp .gt (.var 1) (.const (.int 0))) (.din true (.bin .sub (.bits (.var 1)) (.const (.int 1))) (.var 0)))
 (.cons (.asg (.tup (.cons (.name 3) (.cons (.name 4) .nil))) (.dget (.var 0) (.bin .sub (.bits (.var 1)) (.const (.int 1))))) (.cons (.par 1 2 (.bin .bxor (.var 1) (.var 3)) (.bin .bxor (.var 2) (.var 4))) .nil)))
 (.cons (.ret (.tup (.cons (.var 1) (.cons (.var 2) .nil)))) .nil))
def fd_reduced : FD := { name := "reduced", ps := ["basis", "row", "bit"], N := ["basis", "row", "bit", "other", "more"], st := s_reduced, body := b_reduced }
abbrev s_first_solution : Stmt := topS 7
theorem sc_first_solution : FnScope ["rows", "many", "basis", "told", "variable", "row", "bit"] ["rows", "many"] (defScope s_first_solution) := ⟨rfl, rfl, rfl, by decide +kernel, rfl, by decide +kernel, by decide +kernel⟩
def b_first_solution : Ss :=
 (.cons (.newD 2) (.cons (.for (.tup (.cons (.name 5) (.cons (.name 6) .nil))) (.seq (.var 0))
 (.cons (.asg (.tup (.cons (.name 5) (.cons (.name 6) .nil))) (.call 4 (.cons (.bor 2) (.cons (.var 5) (.cons (.var 6) .nil))))) (.cons (.ite (.cmp .gt (.var 5) (.const (.int 0)))
 (.cons (.dput 2 (.bin .sub (.bits (.var 5)) (.const (.int 1))) (.tup (.cons (.var 5) (.cons (.var 6) .nil)))) .nil)
 (.cons (.ite (.cmp .eq (.var 6) (.const (.int 1)))
 (.cons (.ret (.const .none)) .nil)
 .nil)
 .nil))
 .nil)))
 (.cons (.set 3 (.const (.int 0))) (.cons (.for (.name 4) (.rng1 (.var 1))
 (.cons (.ite (.din true (.var 4) (.bor 2))
 (.cons (.asg (.tup (.cons (.name 5) (.cons (.name 6) .nil))) (.dget (.bor 2) (.var 4))) (.cons (.ite (.cmp .ne (.call 3 (.cons (.bin .band (.var 5) (.var 3)) .nil)) (.var 6))
 (.cons (.set 3 (.bin .add (.var 3) (.bin .shl (.const (.int 1)) (.var 4)))) .nil)
 .nil)
 .nil))
 .nil)
 .nil))
 (.cons (.ret (.var 3)) .nil)))))
def fd_first_solution : FD := { name := "first_solution", ps := ["rows", "many"], N := ["rows", "many", "basis", "told", "variable", "row", "bit"], st := s_first_solution, body := b_first_solution }
abbrev s_allowed : Stmt := topS 9
theorem sc_allowed : FnScope ["graph", "later", "vertex"] ["graph", "later"] (defScope s_allowed) := ⟨rfl, rfl, rfl, by decide +kernel, rfl, by decide +kernel, by decide +kernel⟩
def b_allowed : Ss :=
 (.cons (.ret (.comp [("vertex", 2)] (.name 2) (.seq (.var 1)) (.some (.cmp .nin (.var 2) (.idx (.var 0) (.const (.int 2))))) (.var 2))) .nil)
def fd_allowed : FD := { name := "allowed", ps := ["graph", "later"], N := ["graph", "later", "vertex"], st := s_allowed, body := b_allowed }
abbrev s_needs_itself : Stmt := topS 10
theorem sc_needs_itself : FnScope ["graph", "vertex"] ["graph", "vertex"] (defScope s_needs_itself) := ⟨rfl, rfl, rfl, by decide +kernel, rfl, by decide +kernel, by decide +kernel⟩
def b_needs_itself : Ss :=
 (.cons (.ret (.cmp .inn (.idx (.idx (.var 0) (.const (.int 4))) (.var 1)) (.tup (.cons (.const (.str "XZ")) (.cons (.const (.str "YZ")) .nil))))) .nil)
def fd_needs_itself : FD := { name := "needs_itself", ps := ["graph", "vertex"], N := ["graph", "vertex"], st := s_needs_itself, body := b_needs_itself }
abbrev s_correction : Stmt := topS 11
theorem sc_correction : FnScope ["graph", "vertex", "later", "columns", "own", "rows", "row", "found", "told", "near", "bit", "at", "one"] ["graph", "vertex", "later"] (defScope s_correction) := ⟨rfl, rfl, rfl, by decide +kernel, rfl, by decide +kernel, by decide +kernel⟩
def b_correction : Ss :=
 (.cons (.set 3 (.call 6 (.cons (.var 0) (.cons (.var 2) .nil)))) (.cons (.set 4 (.ite (.call 7 (.cons (.var 0) (.cons (.var 1) .nil))) (.call 0 (.cons (.var 0) (.cons (.var 1) .nil))) (.tup .nil))) (.cons (.setO 5 (.lst .nil)) (.cons (.for (.name 6) (.rng1 (.idx (.var 0) (.const (.int 0))))
 (.cons (.ite (.cmp .nin (.var 6) (.var 2))
 (.cons (.set 9 (.call 0 (.cons (.var 0) (.cons (.var 6) .nil)))) (.cons (.set 10 (.bin .bxor (.bi .int (.and (.cmp .eq (.var 6) (.var 1)) (.cmp .ne (.idx (.idx (.var 0) (.const (.int 4))) (.var 1)) (.const (.str "YZ"))))) (.bi .int (.cmp .inn (.var 6) (.var 4))))) (.cons (.app 5 (.tup (.cons (.call 1 (.cons (.comp [("at", 11), ("one", 12)] (.tup (.cons (.name 11) (.cons (.name 12) .nil))) (.enum (.var 3)) (.some (.cmp .inn (.var 12) (.var 9))) (.var 11)) .nil)) (.cons (.var 10) .nil)))) .nil)))
 .nil)
 .nil))
 (.cons (.set 7 (.call 5 (.cons (.bor 5) (.cons (.bi .len (.var 3)) .nil)))) (.cons (.ite (.isN true (.var 7))
 (.cons (.ret (.const .none)) .nil)
 .nil)
 (.cons (.set 8 (.comp [("at", 11)] (.name 11) (.seq (.call 2 (.cons (.var 7) .nil))) .none (.idx (.var 3) (.var 11)))) (.cons (.ret (.bi .tuple (.bi .sorted (.ite (.call 7 (.cons (.var 0) (.cons (.var 1) .nil))) (.bin .add (.var 8) (.lst (.cons (.var 1) .nil))) (.var 8))))) .nil))))))))
def fd_correction : FD := { name := "correction", ps := ["graph", "vertex", "later"], N := ["graph", "vertex", "later", "columns", "own", "rows", "row", "found", "told", "near", "bit", "at", "one"], st := s_correction, body := b_correction }
abbrev s_even_set : Stmt := topS 12
theorem sc_even_set : FnScope ["graph", "vertex", "held", "rows", "other", "near", "own", "at", "one"] ["graph", "vertex", "held"] (defScope s_even_set) := ⟨rfl, rfl, rfl, by decide +kernel, rfl, by decide +kernel, by decide +kernel⟩
def b_even_set : Ss :=
 (.cons (.setO 3 (.lst .nil)) (.cons (.for (.name 4) (.rng1 (.idx (.var 0) (.const (.int 0))))
 (.cons (.ite (.and (.cmp .nin (.var 4) (.var 2)) (.cmp .nin (.var 4) (.idx (.var 0) (.const (.int 2)))))
 (.cons (.set 5 (.call 0 (.cons (.var 0) (.cons (.var 4) .nil)))) (.cons (.app 3 (.tup (.cons (.call 1 (.cons (.comp [("at", 7), ("one", 8)] (.tup (.cons (.name 7) (.cons (.name 8) .nil))) (.enum (.var 2)) (.some (.cmp .inn (.var 8) (.var 5))) (.var 7)) .nil)) (.cons (.const (.int 0)) .nil)))) .nil))
 .nil)
 .nil))
 (.cons (.set 5 (.ite (.call 7 (.cons (.var 0) (.cons (.var 1) .nil))) (.call 0 (.cons (.var 0) (.cons (.var 1) .nil))) (.tup .nil))) (.cons (.setO 6 (.comp [("at", 7), ("one", 8)] (.tup (.cons (.name 7) (.cons (.name 8) .nil))) (.enum (.var 2)) (.some (.cmp .inn (.var 8) (.var 5))) (.var 7))) (.cons (.ite (.cmp .ne (.idx (.idx (.var 0) (.const (.int 4))) (.var 1)) (.const (.str "YZ")))
 (.cons (.app 6 (.index (.var 2) (.var 1))) .nil)
 .nil)
 (.cons (.app 3 (.tup (.cons (.call 1 (.cons (.bor 6) .nil)) (.cons (.const (.int 1)) .nil)))) (.cons (.ret (.bi .tuple (.comp [("at", 7)] (.name 7) (.seq (.call 2 (.cons (.call 5 (.cons (.bor 3) (.cons (.bi .len (.var 2)) .nil))) .nil))) .none (.idx (.var 2) (.var 7))))) .nil)))))))
def fd_even_set : FD := { name := "even_set", ps := ["graph", "vertex", "held"], N := ["graph", "vertex", "held", "rows", "other", "near", "own", "at", "one"], st := s_even_set, body := b_even_set }
abbrev s_find_flow : Stmt := topS 13
theorem sc_find_flow : FnScope ["graph", "sets", "layers", "later", "layer", "found", "vertex", "told", "held"] ["graph"] (defScope s_find_flow) := ⟨rfl, rfl, rfl, by decide +kernel, rfl, by decide +kernel, by decide +kernel⟩
def b_find_flow : Ss :=
 (.cons (.setO 1 (.bin .mul (.lst (.cons (.tup .nil) .nil)) (.idx (.var 0) (.const (.int 0))))) (.cons (.setO 2 (.bin .mul (.lst (.cons (.const (.int 0)) .nil)) (.idx (.var 0) (.const (.int 0))))) (.cons (.set 3 (.bi .list (.idx (.var 0) (.const (.int 3))))) (.cons (.set 4 (.const (.int 0))) (.cons (.whl (.cmp .lt (.bi .len (.var 3)) (.idx (.var 0) (.const (.int 0))))
 (.cons (.set 4 (.bin .add (.var 4) (.const (.int 1)))) (.cons (.setO 5 (.lst .nil)) (.cons (.for (.name 6) (.rng1 (.idx (.var 0) (.const (.int 0))))
 (.cons (.set 7 (.ite (.cmp .inn (.var 6) (.var 3)) (.const .none) (.call 8 (.cons (.var 0) (.cons (.var 6) (.cons (.var 3) .nil)))))) (.cons (.ite (.isN false (.var 7))
 (.cons (.stores [.sub 1 (.var 6), .sub 2 (.var 6)] (.cons (.var 7) (.cons (.var 4) .nil))) (.cons (.app 5 (.var 6)) .nil))
 .nil)
 .nil)))
 (.cons (.ite (.emp true (.bor 5))
 (.cons (.set 8 (.bi .tuple (.comp [("vertex", 6)] (.name 6) (.rng1 (.idx (.var 0) (.const (.int 0)))) (.some (.cmp .nin (.var 6) (.var 3))) (.var 6)))) (.cons (.ret (.tup (.cons (.const (.str "barrier")) (.cons (.var 8) (.cons (.bi .tuple (.comp [("vertex", 6)] (.name 6) (.seq (.var 8)) .none (.call 9 (.cons (.var 0) (.cons (.var 6) (.cons (.var 8) .nil)))))) .nil))))) .nil))
 .nil)
 (.cons (.set 3 (.bi .sorted (.bin .add (.var 3) (.bor 5)))) .nil))))))
 (.cons (.ret (.tup (.cons (.const (.str "flow")) (.cons (.bi .tuple (.bor 1)) (.cons (.bi .tuple (.bor 2)) .nil))))) .nil))))))
def fd_find_flow : FD := { name := "find_flow", ps := ["graph"], N := ["graph", "sets", "layers", "later", "layer", "found", "vertex", "told", "held"], st := s_find_flow, body := b_find_flow }
abbrev s_law_state : Stmt := topS 15
theorem sc_law_state : FnScope ["script", "seed", "cell"] ["script"] (defScope s_law_state) := ⟨rfl, rfl, rfl, by decide +kernel, rfl, by decide +kernel, by decide +kernel⟩
abbrev s_law_draw : Stmt := topS 16
theorem sc_law_draw : FnScope ["state", "many", "cells", "mixed", "value"] ["state", "many"] (defScope s_law_draw) := ⟨rfl, rfl, rfl, by decide +kernel, rfl, by decide +kernel, by decide +kernel⟩
abbrev s_law_graph : Stmt := topS 17
theorem sc_law_graph : FnScope ["state", "most", "all_planes", "many", "dense", "edges", "one", "outputs", "inputs", "planes", "vertex", "other", "word"] ["state", "most", "all_planes"] (defScope s_law_graph) := ⟨rfl, rfl, rfl, by decide +kernel, rfl, by decide +kernel, by decide +kernel⟩
def b_law_graph : Ss :=
 (.cons (.set 3 (.bin .add (.const (.int 1)) (.call 11 (.cons (.var 0) (.cons (.var 1) .nil))))) (.cons (.set 4 (.idx (.lst (.cons (.const (.int 2)) (.cons (.const (.int 3)) (.cons (.const (.int 5)) .nil)))) (.call 11 (.cons (.var 0) (.cons (.const (.int 3)) .nil))))) (.cons (.setO 5 (.lst .nil)) (.cons (.for (.name 6) (.rng1 (.var 3))
 (.cons (.for (.name 11) (.rng2 (.bin .add (.var 6) (.const (.int 1))) (.var 3))
 (.cons (.ite (.cmp .eq (.call 11 (.cons (.var 0) (.cons (.var 4) .nil))) (.const (.int 0)))
 (.cons (.app 5 (.tup (.cons (.var 6) (.cons (.var 11) .nil)))) .nil)
 .nil)
 .nil))
 .nil))
 (.cons (.set 7 (.bi .tuple (.comp [("vertex", 10)] (.name 10) (.rng1 (.var 3)) (.some (.or (.cmp .eq (.call 11 (.cons (.var 0) (.cons (.const (.int 3)) .nil))) (.const (.int 0))) (.and (.cmp .eq (.var 10) (.bin .sub (.var 3) (.const (.int 1)))) (.cmp .gt (.call 11 (.cons (.var 0) (.cons (.const (.int 8)) .nil))) (.const (.int 0)))))) (.var 10)))) (.cons (.set 8 (.bi .tuple (.comp [("vertex", 10)] (.name 10) (.rng1 (.var 3)) (.some (.cmp .eq (.call 11 (.cons (.var 0) (.cons (.const (.int 4)) .nil))) (.const (.int 0)))) (.var 10)))) (.cons (.setO 9 (.lst .nil)) (.cons (.for (.name 10) (.rng1 (.var 3))
 (.cons (.set 12 (.ite (.var 2) (.idx (.lst (.cons (.const (.str "XY")) (.cons (.const (.str "XY")) (.cons (.const (.str "XZ")) (.cons (.const (.str "YZ")) .nil))))) (.call 11 (.cons (.var 0) (.cons (.const (.int 4)) .nil)))) (.const (.str "XY")))) (.cons (.app 9 (.ite (.cmp .inn (.var 10) (.var 7)) (.const (.str "")) (.ite (.cmp .inn (.var 10) (.var 8)) (.const (.str "XY")) (.var 12)))) .nil)))
 (.cons (.ret (.tup (.cons (.var 3) (.cons (.bi .tuple (.bor 5)) (.cons (.var 8) (.cons (.var 7) (.cons (.bi .tuple (.bor 9)) .nil))))))) .nil)))))))))
def fd_law_graph : FD := { name := "_law_graph", ps := ["state", "most", "all_planes"], N := ["state", "most", "all_planes", "many", "dense", "edges", "one", "outputs", "inputs", "planes", "vertex", "other", "word"], st := s_law_graph, body := b_law_graph }
abbrev s_law_path : Stmt := topS 18
theorem sc_law_path : FnScope ["state", "most", "wires", "long", "edges", "wire", "k", "many", "outputs", "inputs", "planes", "at", "one", "other", "vertex"] ["state", "most"] (defScope s_law_path) := ⟨rfl, rfl, rfl, by decide +kernel, rfl, by decide +kernel, by decide +kernel⟩
def b_law_path : Ss :=
 (.cons (.set 2 (.bin .add (.const (.int 1)) (.call 11 (.cons (.var 0) (.cons (.const (.int 3)) .nil))))) (.cons (.set 3 (.bin .add (.const (.int 1)) (.call 11 (.cons (.var 0) (.cons (.bin .fdiv (.var 1) (.var 2)) .nil))))) (.cons (.setO 4 (.lst .nil)) (.cons (.for (.name 5) (.rng1 (.var 2))
 (.cons (.for (.name 11) (.rng1 (.bin .sub (.var 3) (.const (.int 1))))
 (.cons (.app 4 (.tup (.cons (.bin .add (.bin .mul (.var 11) (.var 2)) (.var 5)) (.cons (.bin .add (.bin .add (.bin .mul (.var 11) (.var 2)) (.var 2)) (.var 5)) .nil)))) .nil))
 .nil))
 (.cons (.for (.name 6) (.rng1 (.call 11 (.cons (.var 0) (.cons (.const (.int 4)) .nil))))
 (.cons (.set 11 (.call 11 (.cons (.var 0) (.cons (.var 3) .nil)))) (.cons (.par 12 13 (.call 11 (.cons (.var 0) (.cons (.var 2) .nil))) (.call 11 (.cons (.var 0) (.cons (.var 2) .nil)))) (.cons (.ite (.cmp .lt (.var 12) (.var 13))
 (.cons (.app 4 (.tup (.cons (.bin .add (.bin .mul (.var 11) (.var 2)) (.var 12)) (.cons (.bin .add (.bin .mul (.var 11) (.var 2)) (.var 13)) .nil)))) .nil)
 .nil)
 .nil))))
 (.cons (.set 7 (.bin .mul (.var 2) (.var 3))) (.cons (.set 8 (.bi .tuple (.comp [("wire", 5)] (.name 5) (.rng3 (.bin .sub (.var 2) (.const (.int 1))) (.neg (.const (.int 1))) (.neg (.const (.int 1)))) .none (.bin .sub (.bin .sub (.var 7) (.const (.int 1))) (.var 5))))) (.cons (.set 9 (.slice (.bi .tuple (.comp [("wire", 5)] (.name 5) (.rng1 (.var 2)) .none (.var 5))) .none (.some (.call 11 (.cons (.var 0) (.cons (.bin .add (.var 2) (.const (.int 1))) .nil)))))) (.cons (.set 10 (.comp [("vertex", 14)] (.name 14) (.rng1 (.var 7)) .none (.ite (.cmp .inn (.var 14) (.var 8)) (.const (.str "")) (.const (.str "XY"))))) (.cons (.ret (.tup (.cons (.var 7) (.cons (.bi .tuple (.sset (.bor 4))) (.cons (.var 9) (.cons (.var 8) (.cons (.bi .tuple (.var 10)) .nil))))))) .nil))))))))))
def fd_law_path : FD := { name := "_law_path", ps := ["state", "most"], N := ["state", "most", "wires", "long", "edges", "wire", "k", "many", "outputs", "inputs", "planes", "at", "one", "other", "vertex"], st := s_law_path, body := b_law_path }
abbrev s_law_near : Stmt := topS 19
theorem sc_law_near : FnScope ["graph", "vertex", "found", "one", "other"] ["graph", "vertex"] (defScope s_law_near) := ⟨rfl, rfl, rfl, by decide +kernel, rfl, by decide +kernel, by decide +kernel⟩
def b_law_near : Ss :=
 (.cons (.set 2 (.comp [("one", 3), ("other", 4)] (.tup (.cons (.name 3) (.cons (.name 4) .nil))) (.seq (.idx (.var 0) (.const (.int 1)))) (.some (.cmp .eq (.var 3) (.var 1))) (.var 4))) (.cons (.ret (.bi .sorted (.bin .add (.var 2) (.comp [("one", 3), ("other", 4)] (.tup (.cons (.name 3) (.cons (.name 4) .nil))) (.seq (.idx (.var 0) (.const (.int 1)))) (.some (.cmp .eq (.var 4) (.var 1))) (.var 3))))) .nil))
def fd_law_near : FD := { name := "_law_near", ps := ["graph", "vertex"], N := ["graph", "vertex", "found", "one", "other"], st := s_law_near, body := b_law_near }
abbrev s_law_odd : Stmt := topS 20
theorem sc_law_odd : FnScope ["graph", "some", "found", "vertex", "one"] ["graph", "some"] (defScope s_law_odd) := ⟨rfl, rfl, rfl, by decide +kernel, rfl, by decide +kernel, by decide +kernel⟩
def b_law_odd : Ss :=
 (.cons (.setO 2 (.lst .nil)) (.cons (.for (.name 3) (.rng1 (.idx (.var 0) (.const (.int 0))))
 (.cons (.ite (.cmp .eq (.bin .mod (.bi .int (.bi .len (.comp [("one", 4)] (.name 4) (.seq (.call 14 (.cons (.var 0) (.cons (.var 3) .nil)))) (.some (.cmp .inn (.var 4) (.var 1))) (.var 4)))) (.const (.int 2))) (.const (.int 1)))
 (.cons (.app 2 (.var 3)) .nil)
 .nil)
 .nil))
 (.cons (.frz 2) (.cons (.ret (.var 2)) .nil))))
def fd_law_odd : FD := { name := "_law_odd", ps := ["graph", "some"], N := ["graph", "some", "found", "vertex", "one"], st := s_law_odd, body := b_law_odd }
abbrev s_law_does : Stmt := topS 21
theorem sc_law_does : FnScope ["graph", "vertex", "some", "later", "odd", "word", "one"] ["graph", "vertex", "some", "later"] (defScope s_law_does) := ⟨rfl, rfl, rfl, by decide +kernel, rfl, by decide +kernel, by decide +kernel⟩
def b_law_does : Ss :=
 (.cons (.set 4 (.call 15 (.cons (.var 0) (.cons (.var 2) .nil)))) (.cons (.ite (.cmp .gt (.bi .len (.comp [("one", 6)] (.name 6) (.seq (.var 2)) (.some (.cmp .inn (.var 6) (.idx (.var 0) (.const (.int 2))))) (.var 6))) (.const (.int 0)))
 (.cons (.ret (.const (.bool false))) .nil)
 .nil)
 (.cons (.set 5 (.idx (.idx (.var 0) (.const (.int 4))) (.var 1))) (.cons (.ite (.or (.cmp .ne (.cmp .inn (.var 1) (.var 2)) (.cmp .inn (.var 5) (.lst (.cons (.const (.str "XZ")) (.cons (.const (.str "YZ")) .nil))))) (.cmp .ne (.cmp .inn (.var 1) (.var 4)) (.cmp .inn (.var 5) (.lst (.cons (.const (.str "XY")) (.cons (.const (.str "XZ")) .nil))))))
 (.cons (.ret (.const (.bool false))) .nil)
 .nil)
 (.cons (.ret (.cmp .eq (.bi .len (.comp [("one", 6)] (.name 6) (.seq (.bin .add (.bi .list (.var 2)) (.var 4))) (.some (.and (.cmp .ne (.var 6) (.var 1)) (.cmp .nin (.var 6) (.var 3)))) (.var 6))) (.const (.int 0)))) .nil)))))
def fd_law_does : FD := { name := "_law_does", ps := ["graph", "vertex", "some", "later"], N := ["graph", "vertex", "some", "later", "odd", "word", "one"], st := s_law_does, body := b_law_does }
abbrev s_law_sets : Stmt := topS 22
theorem sc_law_sets : FnScope ["many", "found", "vertex", "at", "some"] ["many"] (defScope s_law_sets) := ⟨rfl, rfl, rfl, by decide +kernel, rfl, by decide +kernel, by decide +kernel⟩
def b_law_sets : Ss :=
 (.cons (.set 1 (.lst (.cons (.tup .nil) .nil))) (.cons (.for (.name 2) (.rng1 (.var 0))
 (.cons (.set 3 (.bin .sub (.bin .sub (.var 0) (.const (.int 1))) (.var 2))) (.cons (.set 1 (.bin .add (.var 1) (.comp [("some", 4)] (.name 4) (.seq (.var 1)) .none (.bin .add (.tup (.cons (.var 3) .nil)) (.var 4))))) .nil)))
 (.cons (.ret (.var 1)) .nil)))
def fd_law_sets : FD := { name := "_law_sets", ps := ["many"], N := ["many", "found", "vertex", "at", "some"], st := s_law_sets, body := b_law_sets }
abbrev s_law_soonest : Stmt := topS 23
theorem sc_law_soonest : FnScope ["graph", "many", "all_sets", "sets", "layers", "later", "layer", "going", "found", "vertex", "good", "some"] ["graph"] (defScope s_law_soonest) := ⟨rfl, rfl, rfl, by decide +kernel, rfl, by decide +kernel, by decide +kernel⟩
def b_law_soonest : Ss :=
 (.cons (.set 1 (.idx (.var 0) (.const (.int 0)))) (.cons (.set 2 (.call 17 (.cons (.var 1) .nil))) (.cons (.setO 3 (.bin .mul (.lst (.cons (.tup .nil) .nil)) (.var 1))) (.cons (.setO 4 (.bin .mul (.lst (.cons (.const (.int 0)) .nil)) (.var 1))) (.cons (.set 5 (.bi .list (.idx (.var 0) (.const (.int 3))))) (.cons (.set 6 (.const (.int 0))) (.cons (.set 7 (.const (.bool true))) (.cons (.whl (.and (.var 7) (.cmp .lt (.bi .len (.var 5)) (.var 1)))
 (.cons (.set 6 (.bin .add (.var 6) (.const (.int 1)))) (.cons (.setO 8 (.lst .nil)) (.cons (.for (.name 9) (.rng1 (.var 1))
 (.cons (.ite (.cmp .nin (.var 9) (.var 5))
 (.cons (.set 10 (.comp [("some", 11)] (.name 11) (.seq (.var 2)) (.some (.call 16 (.cons (.var 0) (.cons (.var 9) (.cons (.var 11) (.cons (.var 5) .nil)))))) (.var 11))) (.cons (.ite (.cmp .gt (.bi .len (.var 10)) (.const (.int 0)))
 (.cons (.stores [.sub 3 (.var 9), .sub 4 (.var 9)] (.cons (.idx (.var 10) (.const (.int 0))) (.cons (.var 6) .nil))) (.cons (.app 8 (.var 9)) .nil))
 .nil)
 .nil))
 .nil)
 .nil))
 (.cons (.set 5 (.bin .add (.var 5) (.bor 8))) (.cons (.set 7 (.cmp .gt (.bi .len (.bor 8)) (.const (.int 0)))) .nil))))))
 (.cons (.ret (.lst (.cons (.bi .tuple (.bor 3)) (.cons (.bi .tuple (.bor 4)) (.cons (.bi .tuple (.comp [("vertex", 9)] (.name 9) (.rng1 (.var 1)) (.some (.cmp .nin (.var 9) (.var 5))) (.var 9))) .nil))))) .nil)))))))))
def fd_law_soonest : FD := { name := "_law_soonest", ps := ["graph"], N := ["graph", "many", "all_sets", "sets", "layers", "later", "layer", "going", "found", "vertex", "good", "some"], st := s_law_soonest, body := b_law_soonest }
abbrev s_law_bars : Stmt := topS 24
theorem sc_law_bars : FnScope ["graph", "held", "vertex", "some", "near", "other", "word", "count", "one"] ["graph", "held", "vertex", "some"] (defScope s_law_bars) := ⟨rfl, rfl, rfl, by decide +kernel, rfl, by decide +kernel, by decide +kernel⟩
def b_law_bars : Ss :=
 (.cons (.set 4 (.call 14 (.cons (.var 0) (.cons (.var 2) .nil)))) (.cons (.for (.name 5) (.rng1 (.idx (.var 0) (.const (.int 0))))
 (.cons (.ite (.and (.cmp .nin (.var 5) (.var 1)) (.cmp .nin (.var 5) (.idx (.var 0) (.const (.int 2)))))
 (.cons (.ite (.cmp .eq (.bin .mod (.bi .int (.bi .len (.comp [("one", 8)] (.name 8) (.seq (.call 14 (.cons (.var 0) (.cons (.var 5) .nil)))) (.some (.cmp .inn (.var 8) (.var 3))) (.var 8)))) (.const (.int 2))) (.const (.int 1)))
 (.cons (.ret (.const (.bool false))) .nil)
 .nil)
 .nil)
 .nil)
 .nil))
 (.cons (.set 6 (.idx (.idx (.var 0) (.const (.int 4))) (.var 2))) (.cons (.set 7 (.bin .add (.bin .mul (.bi .len (.comp [("one", 8)] (.name 8) (.seq (.var 4)) (.some (.cmp .inn (.var 8) (.var 3))) (.var 8))) (.bi .int (.cmp .ne (.var 6) (.const (.str "XY"))))) (.bin .mul (.bi .int (.cmp .inn (.var 2) (.var 3))) (.bi .int (.cmp .ne (.var 6) (.const (.str "YZ"))))))) (.cons (.ret (.cmp .eq (.bin .mod (.bi .int (.var 7)) (.const (.int 2))) (.const (.int 1)))) .nil)))))
def fd_law_bars : FD := { name := "_law_bars", ps := ["graph", "held", "vertex", "some"], N := ["graph", "held", "vertex", "some", "near", "other", "word", "count", "one"], st := s_law_bars, body := b_law_bars }
abbrev s_law_barrier : Stmt := topS 25
theorem sc_law_barrier : FnScope ["graph", "held", "told", "vertex", "rows", "some", "one"] ["graph", "held"] (defScope s_law_barrier) := ⟨rfl, rfl, rfl, by decide +kernel, rfl, by decide +kernel, by decide +kernel⟩
def b_law_barrier : Ss :=
 (.cons (.setO 2 (.lst .nil)) (.cons (.for (.name 3) (.seq (.var 1))
 (.cons (.set 4 (.comp [("some", 5)] (.name 5) (.seq (.call 17 (.cons (.idx (.var 0) (.const (.int 0))) .nil))) (.some (.cmp .eq (.bi .len (.comp [("one", 6)] (.name 6) (.seq (.var 5)) (.some (.cmp .nin (.var 6) (.var 1))) (.var 6))) (.const (.int 0)))) (.var 5))) (.cons (.app 2 (.idx (.comp [("some", 5)] (.name 5) (.seq (.var 4)) (.some (.call 19 (.cons (.var 0) (.cons (.var 1) (.cons (.var 3) (.cons (.var 5) .nil)))))) (.var 5)) (.const (.int 0)))) .nil)))
 (.cons (.ret (.bi .tuple (.bor 2))) .nil)))
def fd_law_barrier : FD := { name := "_law_barrier", ps := ["graph", "held"], N := ["graph", "held", "told", "vertex", "rows", "some", "one"], st := s_law_barrier, body := b_law_barrier }
abbrev s_law : Stmt := topS 26
theorem sc_law : FnScope ["script", "state", "turn", "alone", "graph", "kept", "due", "told", "sets", "layers", "held", "plane", "part"] ["script"] (defScope s_law) := ⟨rfl, rfl, rfl, by decide +kernel, rfl, by decide +kernel, by decide +kernel⟩
def b_law : Ss :=
 (.cons (.for (.name 2) (.rng1 (.const (.int 2)))
 (.cons (.set 4 (.ite (.cmp .eq (.call 11 (.cons (.var 1) (.cons (.const (.int 2)) .nil))) (.const (.int 0))) (.call 12 (.cons (.var 1) (.cons (.idx (.lst (.cons (.const (.int 6)) (.cons (.const (.int 6)) (.cons (.const (.int 7)) .nil)))) (.call 11 (.cons (.var 1) (.cons (.const (.int 3)) .nil)))) (.cons (.const (.bool true)) .nil)))) (.call 13 (.cons (.var 1) (.cons (.const (.int 6)) .nil))))) (.cons (.set 5 (.repr (.var 4))) (.cons (.asg (.tup (.cons (.name 8) (.cons (.name 9) (.cons (.name 10) .nil)))) (.call 18 (.cons (.var 4) .nil))) (.cons (.set 6 (.ite (.cmp .eq (.bi .len (.var 10)) (.const (.int 0))) (.tup (.cons (.const (.str "flow")) (.cons (.var 8) (.cons (.var 9) .nil)))) (.tup (.cons (.const (.str "barrier")) (.cons (.var 10) (.cons (.call 20 (.cons (.var 4) (.cons (.var 10) .nil))) .nil)))))) (.cons (.set 7 (.call 10 (.cons (.var 4) .nil))) (.cons (.ite (.or (.not (.inst (.var 7) "tuple")) (.or (.not (.inst (.idx (.var 7) (.const (.int 0))) "str")) (.or (.cmp .ne (.var 7) (.var 6)) (.cmp .ne (.repr (.var 4)) (.var 5)))))
 (.cons (.ret (.const (.bool false))) .nil)
 .nil)
 (.cons (.ite (.cmp .gt (.bi .len (.comp [("part", 12)] (.name 12) (.seq (.slice (.var 7) (.some (.const (.int 1))) .none)) (.some (.not (.inst (.var 12) "tuple"))) (.var 12))) (.const (.int 0)))
 (.cons (.ret (.const (.bool false))) .nil)
 .nil)
 .nil))))))))
 (.cons (.set 3 (.comp [("plane", 11)] (.name 11) (.seq (.lst (.cons (.const (.str "XY")) (.cons (.const (.str "XZ")) (.cons (.const (.str "YZ")) .nil))))) .none (.idx (.call 10 (.cons (.tup (.cons (.const (.int 1)) (.cons (.tup .nil) (.cons (.tup .nil) (.cons (.tup .nil) (.cons (.tup (.cons (.var 11) .nil)) .nil)))))) .nil)) (.const (.int 0))))) (.cons (.ret (.cmp .eq (.var 3) (.lst (.cons (.const (.str "barrier")) (.cons (.const (.str "barrier")) (.cons (.const (.str "flow")) .nil)))))) .nil)))
def tab : List Ent := [.df fd_neighbours, .df fd_mask_of, .df fd_members, .df fd_parity, .df fd_reduced, .df fd_first_solution, .df fd_allowed, .df fd_needs_itself, .df fd_correction, .df fd_even_set, .df fd_find_flow, .pr "_law_draw" 2 drawS, .df fd_law_graph, .df fd_law_path, .df fd_law_near, .df fd_law_odd, .df fd_law_does, .df fd_law_sets, .df fd_law_soonest, .df fd_law_bars, .df fd_law_barrier]
theorem ck_neighbours : chkSs (ccOf tab gls fd_neighbours.N) fd_neighbours.body (defScope fd_neighbours.st) (fun _ => true) (defBody fd_neighbours.st) = true := by decide +kernel
theorem ck_mask_of : chkSs (ccOf tab gls fd_mask_of.N) fd_mask_of.body (defScope fd_mask_of.st) (fun _ => true) (defBody fd_mask_of.st) = true := by decide +kernel
theorem ck_members : chkSs (ccOf tab gls fd_members.N) fd_members.body (defScope fd_members.st) (fun _ => true) (defBody fd_members.st) = true := by decide +kernel
theorem ck_parity : chkSs (ccOf tab gls fd_parity.N) fd_parity.body (defScope fd_parity.st) (fun _ => true) (defBody fd_parity.st) = true := by decide +kernel
theorem ck_reduced : chkSs (ccOf tab gls fd_reduced.N) fd_reduced.body (defScope fd_reduced.st) (fun _ => true) (defBody fd_reduced.st) = true := by decide +kernel
theorem ck_first_solution : chkSs (ccOf tab gls fd_first_solution.N) fd_first_solution.body (defScope fd_first_solution.st) (fun _ => true) (defBody fd_first_solution.st) = true := by decide +kernel
theorem ck_allowed : chkSs (ccOf tab gls fd_allowed.N) fd_allowed.body (defScope fd_allowed.st) (fun _ => true) (defBody fd_allowed.st) = true := by decide +kernel
theorem ck_needs_itself : chkSs (ccOf tab gls fd_needs_itself.N) fd_needs_itself.body (defScope fd_needs_itself.st) (fun _ => true) (defBody fd_needs_itself.st) = true := by decide +kernel
theorem ck_correction : chkSs (ccOf tab gls fd_correction.N) fd_correction.body (defScope fd_correction.st) (fun _ => true) (defBody fd_correction.st) = true := by decide +kernel
theorem ck_even_set : chkSs (ccOf tab gls fd_even_set.N) fd_even_set.body (defScope fd_even_set.st) (fun _ => true) (defBody fd_even_set.st) = true := by decide +kernel
theorem ck_find_flow : chkSs (ccOf tab gls fd_find_flow.N) fd_find_flow.body (defScope fd_find_flow.st) (fun _ => true) (defBody fd_find_flow.st) = true := by decide +kernel
theorem ck_law_graph : chkSs (ccOf tab gls fd_law_graph.N) fd_law_graph.body (defScope fd_law_graph.st) (fun _ => true) (defBody fd_law_graph.st) = true := by decide +kernel
theorem ck_law_path : chkSs (ccOf tab gls fd_law_path.N) fd_law_path.body (defScope fd_law_path.st) (fun _ => true) (defBody fd_law_path.st) = true := by decide +kernel
theorem ck_law_near : chkSs (ccOf tab gls fd_law_near.N) fd_law_near.body (defScope fd_law_near.st) (fun _ => true) (defBody fd_law_near.st) = true := by decide +kernel
theorem ck_law_odd : chkSs (ccOf tab gls fd_law_odd.N) fd_law_odd.body (defScope fd_law_odd.st) (fun _ => true) (defBody fd_law_odd.st) = true := by decide +kernel
theorem ck_law_does : chkSs (ccOf tab gls fd_law_does.N) fd_law_does.body (defScope fd_law_does.st) (fun _ => true) (defBody fd_law_does.st) = true := by decide +kernel
theorem ck_law_sets : chkSs (ccOf tab gls fd_law_sets.N) fd_law_sets.body (defScope fd_law_sets.st) (fun _ => true) (defBody fd_law_sets.st) = true := by decide +kernel
theorem ck_law_soonest : chkSs (ccOf tab gls fd_law_soonest.N) fd_law_soonest.body (defScope fd_law_soonest.st) (fun _ => true) (defBody fd_law_soonest.st) = true := by decide +kernel
theorem ck_law_bars : chkSs (ccOf tab gls fd_law_bars.N) fd_law_bars.body (defScope fd_law_bars.st) (fun _ => true) (defBody fd_law_bars.st) = true := by decide +kernel
theorem ck_law_barrier : chkSs (ccOf tab gls fd_law_barrier.N) fd_law_barrier.body (defScope fd_law_barrier.st) (fun _ => true) (defBody fd_law_barrier.st) = true := by decide +kernel
theorem ck_law : chkSs (ccOf tab gls ["script", "state", "turn", "alone", "graph", "kept", "due", "told", "sets", "layers", "held", "plane", "part"] false true) b_law (defScope s_law) (fun _ => true) (defBody s_law).tail = true := by decide +kernel

end L_k04

end
section
set_option Elab.async false
set_option linter.all false
set_option maxRecDepth 100000
set_option maxHeartbeats 16000000
namespace L_k04
open PySem PySem.Spec PyProof.Rows L2 Eng
section
variable {P : Program} {w : World} {K : PySem.W.Frag} {mg : Str → Option Value} {base : Heap} {xa : Exn → Value → Option Addr → Hp → Prop}
/-! the law's state, made -/
def spState (K : PySem.W.Frag) : Sp := fun vs H Q _ => ∃ (a : Addr) (ns : List Int), vs = [.ref a] ∧ SqL K H a (ns.map V.int) ∧ ns.length ≤ 63 ∧
  ∀ H' p c, Sub H H' → H p = none → H c = none → p ≠ c → H' p = some (.lst [.ref c, .int (seedN ns + 1)]) → H' c = some (.lst ((ns.map absN).map V.int)) → Q (.ref p) H'
theorem seed_take (ns : List Int) (i : Nat) (h : i < ns.length) : seedN (ns.take (i + 1)) = (seedN (ns.take i) * 31 + ns[i]) % 1000003 := by
  unfold seedN
  rw [List.take_add_one, List.getElem?_eq_getElem h, Option.toList_some, List.foldl_append]
  rfl
theorem seed_range : ∀ (ns : List Int), 0 ≤ seedN ns ∧ seedN ns < 1000003 := by
  intro ns
  unfold seedN
  have key : ∀ (l : List Int) (s : Int), 0 ≤ s ∧ s < 1000003 → 0 ≤ l.foldl (fun s c => (s * 31 + c) % 1000003) s ∧ l.foldl (fun s c => (s * 31 + c) % 1000003) s < 1000003 := by
    intro l
    induction l with
    | nil => exact fun s h => h
    | cons x l ih => exact fun s _ => ih _ ⟨Int.emod_nonneg _ (by decide), Int.emod_lt_of_pos _ (by decide)⟩
  exact key ns 7 ⟨by decide, by decide⟩
theorem ok_state {f : Addr} {fd : FuncData} (Fu : Fun K "_law_state" "_law_state" s_law_state f fd) (mi : mg "int" = none) (ma : mg "abs" = none) : FnOk P w K mg base (L2.CX P w) 1 f fd ["script"] (spState K) := by
  refine Fu.okX sc_law_state (fun vs H Q E h => ?_) (fun cdv A outer s H vs Q E hr h => ?_)
  · obtain ⟨a, ns, rfl, _⟩ := h
    rfl
  · obtain ⟨a, ns, rfl, hS, hlen, q⟩ := h
    refine ⟨_, pss_cons (ps_set (i := 1) sc_law_state.nd rfl (.inl rfl) pe_int)
      (pss_cons (ps_for (passes_of rfl) rfl (pi_list (pv 0)) (pg_name (i := 2) sc_law_state.nd rfl (.inl rfl)) (pss_one (ps_set (i := 1) sc_law_state.nd rfl (.inl rfl)
        (pe_op op_mod (pe_callTy call_int1 (by rfl) mi (by decide +kernel) (pa_cons (pe_op op_add (pe_op op_mul (pv 1) pe_int) (pv 2)) pa_nil)) pe_int))))
      (pss_one (ps_ret (pe_lst (pa_cons (pe_lc (own := [("cell", 2)]) (g := gName 2) (tt := tYes) rfl sc_law_state.nd (pi_list (pv 0)) (blkOk_by (N := ["script", "seed", "cell"]) (sc := defScope s_law_state) (by decide +kernel))
        (fun _ _ _ _ _ => pg_name (i := 2) sc_law_state.nd rfl (Or.inl rfl)) (fun _ _ _ _ _ => pts_nil) (fun _ _ _ _ _ => pe_callB call_abs (by rfl) ma (by decide +kernel) (pa_cons (pv 2) pa_nil)))
        (pa_cons (pe_op op_add (pv 1) pe_int) pa_nil)))))), ?_⟩
    refine ⟨.ref a, rfl, a, rfl, ⟨_, hS⟩, for_list (xs := ns.map V.int) (fun i σ H' => H' = H ∧ ∃ y2, σ = [some (.ref a), some (.int (seedN (ns.take i))), y2]) ⟨rfl, none, rfl⟩ (fun i σ H' _ h => by rw [h.1]; exact hS) (fun i x σ H' hx h => ?_) (fun σ H' h => ?_)⟩
    · obtain ⟨rfl, y2, rfl⟩ := h
      rw [List.getElem?_map] at hx
      cases hn : ns[i]? with
      | none => rw [hn] at hx; cases hx
      | some n =>
        rw [hn] at hx
        cases hx
        obtain ⟨hi, e⟩ := List.getElem?_eq_some_iff.mp hn
        have hr := seed_range (ns.take i)
        refine ⟨.int (seedN (ns.take i)), rfl, _, 31, rfl, rfl, cmul_small hr.1 (by omega), .int n, rfl, _, n, rfl, rfl, .inl ⟨_, rfl, _, 1000003, rfl, rfl, (show (0 : Int) < 1000003 from by decide), rfl, some (.int n), ?_⟩⟩
        rw [seed_take ns i hi, e]
        rfl
    · obtain ⟨rfl, y2, rfl⟩ := h
      rw [List.length_map, List.take_length]
      refine ⟨.ref a, rfl, a, rfl, ⟨_, hS⟩, fun c nc => ?_⟩
      have sc : Sub H' (upd H' c (.lst [])) := Sub.upd nc
      refine lc_list (xs := ns.map V.int) (fun i H2 => Sub H' H2 ∧ H2 c = some (.lst (((ns.take i).map absN).map V.int))) ⟨sc, upd_same⟩ (fun i H2 _ h => h.1.sqL hS) (fun i x H2 hx h => ?_) (fun H2 h => ?_)
      · rw [List.getElem?_map] at hx
        cases hn : ns[i]? with
        | none => rw [hn] at hx; cases hx
        | some n =>
          rw [hn] at hx
          cases hx
          obtain ⟨hi, e⟩ := List.getElem?_eq_some_iff.mp hn
          refine ⟨rfl, .int n, rfl, n, rfl, _, h.2, ?_, fun b o hb => ?_, ?_⟩
          · rw [List.length_map, List.length_map, List.length_take]
            exact Nat.lt_of_le_of_lt (Nat.min_le_left _ _) (small1000 (by omega))
          · have nb : b ≠ c := fun z => by subst z; rw [nc] at hb; cases hb
            rw [upd_ne nb]; exact h.1 b o hb
          · rw [upd_same, List.take_add_one, hn, Option.toList_some, List.map_append, List.map_append]
            rfl
      · rw [List.length_map, List.take_length] at h
        refine ⟨.int (seedN ns), rfl, seedN ns, 1, rfl, rfl, Nat.le_of_ble_eq_true rfl, fun p np => ?_⟩
        have ncp : H2 c = some (.lst ((ns.map absN).map V.int)) := h.2
        have hpc : p ≠ c := fun z => by subst z; rw [np] at ncp; cases ncp
        refine q (upd H2 p _) p c (h.1.trans (Sub.upd np)) ?_ nc hpc upd_same (by rw [upd_ne (Ne.symm hpc)]; exact ncp)
        cases z : H' p with
        | none => rfl
        | some u => rw [h.1 _ _ z] at np; cases np
/-! a draw -/
theorem sq0 (v : Int) (r : List Int) : seqIndex? 0 ((v :: r).map V.int).length = some 0 := by
  rw [List.length_map, List.length_cons]
  unfold seqIndex?
  simp
theorem ix0 (v : Int) (r : List Int) : ixN ((v :: r).map V.int).length 0 = some 0 := by
  rw [List.length_map, List.length_cons]
  unfold ixN
  simp
theorem iteT {c : Prop} [Decidable c] {A B : Prop} (h : c) (a : A) : if c then A else B := by rw [if_pos h]; exact a
theorem iteF {c : Prop} [Decidable c] {A B : Prop} (h : ¬ c) (b : B) : if c then A else B := by rw [if_neg h]; exact b
theorem ok_draw {f : Addr} {fd : FuncData} (i : Nat) (Fu : Fun K "_law_draw" "_law_draw" s_law_draw f fd) (mi : mg "int" = none) (ml : mg "len" = none) : FnOk P w K mg base (L2.CX P w) 1 f fd ["state", "many"] (spF K TB xa (fun _ => drawS) i 2) := by
  refine Fu.okX sc_law_draw (fun vs H Q E h => h.1) (fun cdv A outer s H vs Q E hr h => ?_)
  obtain ⟨hl, sa, F, st, ds, htb, hF, hSt, hr2, hq⟩ := h
  have hq : (match drawS ds st with
    | .ok d st' => ∀ F' H' v, CStp sa F H F' H' st' → Rp K sa F' v d → Q v H'
    | .exc e st' => ∀ F' H' cls dx, CStp sa F H F' H' st' → xa e cls dx H' → E cls dx H'
    | .bad => False) := hq
  rcases drawS_cases ds st with z | ⟨m, cells, seed, rfl, rfl, ⟨hm1, hm2, hs1, hs2⟩, hd⟩
  · rw [z] at hq; exact hq.elim
  rw [hd] at hq
  cases hr2 with
  | cons h0 hr3 =>
  cases hr3 with
  | cons h1 hr4 =>
  cases hr4
  cases h1
  obtain ⟨a, c, hsa, rfl⟩ := h0.tok
  obtain ⟨hSt, hTb⟩ := hSt
  rw [hsa] at hSt
  obtain ⟨hac, nFa, nFc, hHa, hHc⟩ := hSt
  have hq : ∀ F' H' v, CStp sa F H F' H' (some (drawN (cells, seed) m).2) → Rp K sa F' v (.int (drawN (cells, seed) m).1) → Q v H' := hq
  -- a heap that differs from H at the state alone
  have fin : ∀ (H' : Hp) (l : List Int) (s : Int), (drawN (cells, seed) m).2 = (l, s) → (∀ b, b ≠ a → b ≠ c → H' b = H b) → H' a = some (.lst [.ref c, .int s]) → H' c = some (.lst (l.map V.int)) → Q (.int (drawN (cells, seed) m).1) H' := fun H' l s e h1 h2 h3 => by
    refine hq F H' _ ⟨fun b u z => ?_, Sub.refl, fun b u hb z => ?_, fun b z => .inl z, ?_⟩ (.int _)
    · have n1 : b ≠ a := fun q => by subst q; rw [nFa] at z; cases z
      have n2 : b ≠ c := fun q => by subst q; rw [nFc] at z; cases z
      rw [h1 b n1 n2]; exact hF _ _ z
    · have n1 : b ≠ a := fun q => hb (.inl (by rw [hsa]; exact .inl q))
      have n2 : b ≠ c := fun q => hb (.inl (by rw [hsa]; exact .inr q))
      rw [h1 b n1 n2]; exact z
    · rw [e]
      refine ⟨by rw [hsa]; exact ⟨hac, nFa, nFc, h2, h3⟩, fun P hP => ?_⟩
      obtain ⟨g1, ps, g2, g3⟩ := hTb P hP
      have n1 : P ≠ a := fun q => by rw [q, hHa] at g2; cases g2
      have n2 : P ≠ c := fun q => by rw [q, hHc] at g2; cases g2
      exact ⟨g1, ps, by rw [h1 P n1 n2]; exact g2, g3⟩
  refine ⟨_, pss_cons (ps_set (i := 2) sc_law_draw.nd rfl (.inl rfl) (pe_ix ix_list (pv 0) pe_int (fun _ _ => rfl)))
    (pss_cons (ps_while (passes_of rfl) (PW.pt (pw_and (pt_cmpR op_gt (pe_callB call_len_seq (by rfl) ml PySem.boot_len (pa_cons (pv 2) pa_nil)) pe_int (nomark _)) (pw_and1 (pt_cmpR op_eq (pe_ix ix_list (pv 2) pe_int (fun _ _ => rfl)) pe_int (nomark _)))))
      (pss_one (ps_expr (pe_bm PySem.F.plainAttrs_list PySem.F.slot_list_pop PySem.F.type_list_pop mt_popAt (pv 2) (pa_cons pe_int pa_nil)))))
    (pss_cons (ps_if (pt_cmpR op_gt (pe_callB call_len_seq (by rfl) ml PySem.boot_len (pa_cons (pv 2) pa_nil)) pe_int (nomark _))
      (pss_cons (ps_set (i := 4) sc_law_draw.nd rfl (.inl rfl) (pe_ix ix_list (pv 2) pe_int (fun _ _ => rfl))) (pss_cons (ps_asg (pe_op op_fdivW (pv 4) (pv 1)) (pg_sub (pv 2) pe_int set_list))
        (pss_one (ps_ret (pe_op op_mod (pe_callTy call_int1 (by rfl) mi (by decide +kernel) (pa_cons (pv 4) pa_nil)) (pv 1))))))
      pss_nil)
    (pss_cons (ps_set (i := 3) sc_law_draw.nd rfl (.inl rfl) (pe_op op_mod (pe_callTy call_int1 (by rfl) mi (by decide +kernel) (pa_cons (pe_op op_add (pe_op op_mul (pe_ix ix_list (pv 0) pe_int (fun _ _ => rfl)) pe_int) pe_int) pa_nil)) pe_int))
    (pss_cons (ps_asg (pv 3) (pg_sub (pv 0) pe_int set_list))
    (pss_one (ps_ret (pe_op op_mod (pe_callTy call_int1 (by rfl) mi (by decide +kernel) (pa_cons (pe_op op_fdivW (pv 3) pe_int) pa_nil)) (pv 1)))))))), ?_⟩
  -- cells = state[0]
  refine ⟨.ref a, rfl, a, _, 0, .ref c, rfl, rfl, .inl (.inl hHa), atI_nat (j := 0) rfl, ?_⟩
  -- while
  refine ⟨fun n σ' H' => ∃ l, n = l.length ∧ σ' = [some (.ref a), some (.int m), some (.ref c), none, none] ∧ (∀ b, b ≠ c → H' b = H b) ∧ H' c = some (.lst (l.map V.int)) ∧ l.dropWhile (· == 0) = cells.dropWhile (· == 0), ⟨cells.length, cells, rfl, rfl, fun _ _ => rfl, hHc, rfl⟩, ?_⟩
  rintro n σ' H' ⟨l, rfl, rfl, hb, hc, hdw⟩
  have hHa' : H' a = some (.lst [.ref c, .int seed]) := (hb a hac).trans hHa
  cases l with
  | nil =>
    refine ⟨.ref c, rfl, c, _, rfl, .inl (.inl (.inl hc)), _, 0, rfl, rfl, _, rfl, iteF (by decide) (iteF (by decide) ?_)⟩
    refine ⟨.ref c, rfl, c, _, rfl, .inl (.inl (.inl hc)), _, 0, rfl, rfl, _, rfl, iteF (by decide) ?_⟩
    have dN : drawN (cells, seed) m = (mixS seed / 64 % m, ([], mixS seed)) := by
      unfold drawN
      simp only []
      rw [← hdw]
      rfl
    have hx := mixS_range seed
    refine ⟨.ref a, rfl, a, _, 1, .int seed, rfl, rfl, .inl (.inl hHa'), atI_nat (j := 1) rfl, seed, 48271, rfl, rfl, cmul_small hs1 (by omega), _, 12345, rfl, rfl, .inl ⟨_, rfl, _, 2147483647, rfl, rfl, (show (0 : Int) < 2147483647 from by decide), ?_⟩⟩
    refine ⟨.int (mixS seed), rfl, .ref a, rfl, a, _, 1, 1, rfl, rfl, hHa', rfl, ?_⟩
    refine ⟨.int (mixS seed), rfl, mixS seed, 64, rfl, rfl, ⟨by decide, by decide +kernel⟩, .inl ⟨_, rfl, .int m, rfl, _, m, rfl, rfl, hm1, ?_⟩⟩
    have e := fin (upd H' a (.lst [.ref c, .int (mixS seed)])) [] (mixS seed) (by rw [dN]) (fun b n1 n2 => by rw [upd_ne n1]; exact hb b n2) upd_same (by rw [upd_ne (Ne.symm hac)]; exact hc)
    rw [dN] at e
    exact e
  | cons v r =>
    refine ⟨.ref c, rfl, c, _, rfl, .inl (.inl (.inl hc)), _, 0, rfl, rfl, _, rfl, iteT (decide_eq_true (by rw [List.length_map, List.length_cons]; omega)) ?_⟩
    refine ⟨.ref c, rfl, c, _, 0, .int v, rfl, rfl, .inl (.inl hc), atI_nat (j := 0) rfl, rfl, _, rfl, ?_⟩
    by_cases hv : v = 0
    · refine iteT (decide_eq_true (by rw [hv])) ⟨_, fun σ' H' h => h, .ref c, rfl, ?_, c, _, 0, 0, .int v, rfl, rfl, hc, by decide, by decide, sq0 _ r, rfl, ?_⟩
      · exact .inl ⟨rfl, _, .inl (.inl hc)⟩
      · exact ⟨r.length, Nat.lt_succ_self _, r, rfl, rfl, fun b n => by rw [upd_ne n]; exact hb b n, upd_same, by rw [← hdw, hv]; rfl⟩
    · refine iteF (by rw [decide_eq_true_iff]; exact fun z => hv (by injection z)) ?_
      have dN : drawN (cells, seed) m = (v % m, (v / m :: r, seed)) := by
        unfold drawN
        simp only []
        rw [← hdw, List.dropWhile_cons_of_neg (by simpa using hv)]
      refine ⟨.ref c, rfl, c, _, rfl, .inl (.inl (.inl hc)), _, 0, rfl, rfl, _, rfl, iteT (decide_eq_true (by rw [List.length_map, List.length_cons]; omega)) ?_⟩
      refine ⟨.ref c, rfl, c, _, 0, .int v, rfl, rfl, .inl (.inl hc), atI_nat (j := 0) rfl, ?_⟩
      refine ⟨.int v, rfl, .int m, rfl, v, m, rfl, rfl, ⟨hm1, ?_⟩, .ref c, rfl, c, _, 0, 0, rfl, rfl, hc, ix0 _ r, ?_⟩
      · have : m.natAbs.log2 < 30 := (Nat.log2_lt (by omega)).mpr (by omega)
        omega
      refine ⟨.int v, rfl, .inl ⟨_, rfl, .int m, rfl, _, m, rfl, rfl, hm1, ?_⟩⟩
      have e := fin (upd H' c (.lst ((v / m :: r).map V.int))) (v / m :: r) seed (by rw [dN]) (fun b n1 n2 => by rw [upd_ne n2]; exact hb b n2) (by rw [upd_ne hac]; exact hHa') upd_same
      rw [dN] at e
      exact e
end

end L_k04

end
section
set_option Elab.async false
set_option linter.all false
set_option maxRecDepth 100000
set_option maxHeartbeats 16000000
namespace L_k04
open PySem PySem.Spec PyProof.Rows L2 Eng
/-! ### the law -/
def spLaw (K : PySem.W.Frag) (TB : List Addr) : Sp := fun vs H Q _ => (∀ P ∈ TB, GxR.TabG H P) ∧ ∃ (a : Addr) (ns : List Int), vs = [.ref a] ∧ SqL K H a (ns.map V.int) ∧ ns.length ≤ 63 ∧ ∀ H', Q (.bl true) H'
def N_law : List Str := ["script", "state", "turn", "alone", "graph", "kept", "due", "told", "sets", "layers", "held", "plane", "part"]
def rho0 : Eng.Env := .emp :: .val stTok :: List.replicate (N_law.length - 2) .emp
theorem rho0_own {σ : L2.St} {i : Nat} {a : Addr} (h : OwnAt rho0 σ i a) : False := by
  have key : ∀ (n i : Nat) (s : Slot), ((.emp :: .val stTok :: List.replicate n .emp : Eng.Env))[i]? = some s → s = .emp ∨ s = .val stTok := fun n i s h => by
    match i with
    | 0 => cases h; exact .inl rfl
    | 1 => cases h; exact .inr rfl
    | i + 2 => exact .inl (List.eq_of_mem_replicate (List.mem_of_getElem? h))
  rcases h.1 with ⟨es, q⟩ | ⟨es, q⟩
  · rcases key _ _ _ q with z | z <;> cases z
  · rcases key _ _ _ q with z | z <;> cases z
theorem ok_law {P : Program} {w : World} {K : PySem.W.Frag} {mg : Str → Option Value} {base : Heap} {xa : Exn → Value → Option Addr → Hp → Prop} {f fs : Addr} {fd fds : FuncData} {L0 : Nat} {TB : List Addr} (T : Tab (L0 + 1) P w K mg base TB xa tab gls gl) (Fu : Fun K "law" "law" s_law f fd) (FS : Fun K "_law_state" "_law_state" s_law_state fs fds) (bS : Binds K fds ["script"] []) (gS : mg "_law_state" = some (.ref fs))
    (mi : mg "int" = none) (ma : mg "abs" = none) (main : ∀ ns : List Int, ns.length ≤ 63 → ∃ st', execs (run gl tab 20) gl b_law rho0 (some (ns.map absN, seedN ns + 1)) = .ok (.ret (.bool true)) st')
    (bind : ∀ (s : Shared) (u : Value), BindsTo s fd ⟨[u], []⟩ [("script", u)]) (room : Room (20 + (L0 + 1) + 1) callerA) {s : Shared} {H : Hp} {a : Addr} {ns : List Int} (hTB : ∀ P ∈ TB, GxR.TabG H P) (hS : SqL K H a (ns.map V.int)) (hlen : ns.length ≤ 63) (e0 : Env0 P w K mg base callerA [] s H) :
    codeAny (model P w) callerA (.call (.ref f) ⟨[.ref a], []⟩) (CR (L2.CX P w) [] P w H s (fun v _ => v = .bl true) fun _ _ _ => False) s := by
  have GS : FnOk P w K mg base (L2.CX P w) 1 fs fds ["script"] (spState K) := ok_state FS mi ma
  refine RepEnd.run_at Fu sc_law bind room e0 fun cdv => ?_
  · have C := ctx_ofR T (all_ok T 20) (N := N_law) (ps := ["script"]) (qual := "law") (scope := defScope s_law) (f := f) (cdv := cdv) (A := callerA) (outer := []) (s := s) (H := H) (F := fun _ => none) (sa := ⟨none, TB⟩) (E := fun _ _ _ => False) (gen := false) (rep := true) sc_law (room.deeper _) rfl (fun z => by cases z) (fun _ => rfl)
    refine ⟨_, pss_cons (ps_set (i := 1) sc_law.nd rfl (by first | exact .inl rfl | exact .inr (.inl rfl) | exact .inr rfl) (pe_call GS ((room.deeper (envOfC "law" (defScope s_law) s.heap.objs.size f cdv)).mono (by omega)) (by rfl) gS FS.kp bS .nil (passes_call (takes_of rfl rfl rfl rfl) (fun _ _ _ _ h => h)) (pa_cons (pv 0) pa_nil)))
      (sSs b_law C sc_law.kind (passes_of rfl) (defBody s_law).tail ck_law), ?_⟩
    refine ⟨.ref a, rfl, a, ns, rfl, hS, hlen, fun H' p c sub np nc hpc hp hc => ?_⟩
    obtain ⟨st', hm⟩ := main ns hlen
    refine ⟨rho0, ⟨some (p, c), TB⟩, fun _ => none, some (ns.map absN, seedN ns + 1), ⟨(fun _ _ z => by cases z), fun i s e => ?_, ?_, fun i j b z _ => (rho0_own z).elim, fun i b z => (rho0_own z).elim, ⟨⟨hpc, rfl, rfl, hp, hc⟩, fun P' hP' => ⟨rfl, by obtain ⟨ps, g1, g2⟩ := hTB P' hP'; exact ⟨ps, sub _ _ g1, g2⟩⟩⟩, fun b o _ z => sub b o z, fun b z => (z rfl).elim, (fun _ _ z => by cases z), .inl ⟨rfl, rfl⟩, fun _ b z => ?_⟩, ?_⟩
    · match i with
      | 0 => cases e; trivial
      | 1 => cases e; exact ⟨_, rfl, .sta rfl⟩
      | i + 2 =>
        have e' : (List.replicate (N_law.length - 2) Slot.emp)[i]? = some s := e
        have := List.eq_of_mem_replicate (List.mem_of_getElem? e')
        subst this
        trivial
    · rfl
    · rcases z with z | z
      · rw [z]; exact np
      · rw [z]; exact nc
    · show Fin K _ ⟨some (p, c), TB⟩ (fun _ => none) (execs (run gl tab 20) gl b_law rho0 (some (ns.map absN, seedN ns + 1))) _
      rw [hm]
      intro ρ' σ' F' H1 v R s' hv
      cases hv
      rfl

end L_k04

end
section
set_option Elab.async false
set_option linter.all false
set_option maxRecDepth 100000
set_option maxHeartbeats 16000000
namespace L_k04
open PySem PySem.Spec PyProof.Rows L2 Eng
theorem all_mk {l : PySem.W.OpenLaw} {w : World} {K : PySem.W.Frag} {h : Heap} {mg : Str → Option Value} {fa f0 f1 f2 f3 f4 f5 f6 f7 f8 f9 f10 f11 f12 f13 f14 f15 f16 f17 f18 f19 f20 f21 f22 : Addr} (X : K.In h) (G : h.Ns mainGlobals mg) (hfa : mg "law" = some (.ref fa)) {q0 : Program} (bare : GenEnd.Bare K mg q0 h)
    {od0 an0 od1 an1 od2 an2 od3 an3 od4 an4 od5 an5 od6 an6 od7 an7 od8 an8 od9 an9 od10 an10 od11 an11 od12 an12 od13 an13 od14 an14 od15 an15 od16 an16 od17 an17 od18 an18 od19 an19 od20 an20 od21 an21 od22 an22 : Option Addr} {sl0 sl1 sl2 sl3 sl4 sl5 sl6 sl7 sl8 sl9 sl10 sl11 sl12 sl13 sl14 sl15 sl16 sl17 sl18 sl19 sl20 sl21 sl22 : Array (Option Value)} {oc0 kV0 dc0 pm0 cd0 ct0 oc1 kV1 dc1 pm1 cd1 ct1 oc2 kV2 dc2 pm2 cd2 ct2 oc3 kV3 dc3 pm3 cd3 ct3 oc4 kV4 dc4 pm4 cd4 ct4 oc5 kV5 dc5 pm5 cd5 ct5 oc6 kV6 dc6 pm6 cd6 ct6 oc7 kV7 dc7 pm7 cd7 ct7 oc8 kV8 dc8 pm8 cd8 ct8 oc9 kV9 dc9 pm9 cd9 ct9 oc10 kV10 dc10 pm10 cd10 ct10 oc11 kV11 dc11 pm11 cd11 ct11 oc12 kV12 dc12 pm12 cd12 ct12 oc13 kV13 dc13 pm13 cd13 ct13 oc14 kV14 dc14 pm14 cd14 ct14 oc15 kV15 dc15 pm15 cd15 ct15 oc16 kV16 dc16 pm16 cd16 ct16 oc17 kV17 dc17 pm17 cd17 ct17 oc18 kV18 dc18 pm18 cd18 ct18 oc19 kV19 dc19 pm19 cd19 ct19 oc20 kV20 dc20 pm20 cd20 ct20 oc21 kV21 dc21 pm21 cd21 ct21 oc22 kV22 dc22 pm22 cd22 ct22 : Value}
    (a0 : PySem.W.nsIn K mainGlobals "neighbours" = some (some (.ref f0)))
    (l0 : K.lookup f0 = some ⟨oc0, od0, .func (PySem.W.fnOf "neighbours" "neighbours" (defArgs s_neighbours) (defBody s_neighbours) (defScope s_neighbours) .none kV0 dc0 pm0 an0 cd0 ct0), sl0⟩)
    (c0 : PySem.W.codeIn K cd0 "neighbours" = true)
    (k0 : PySem.W.keepIn K (.ref f0) = true)
    (a1 : PySem.W.nsIn K mainGlobals "mask_of" = some (some (.ref f1)))
    (l1 : K.lookup f1 = some ⟨oc1, od1, .func (PySem.W.fnOf "mask_of" "mask_of" (defArgs s_mask_of) (defBody s_mask_of) (defScope s_mask_of) .none kV1 dc1 pm1 an1 cd1 ct1), sl1⟩)
    (c1 : PySem.W.codeIn K cd1 "mask_of" = true)
    (k1 : PySem.W.keepIn K (.ref f1) = true)
    (a2 : PySem.W.nsIn K mainGlobals "members" = some (some (.ref f2)))
    (l2 : K.lookup f2 = some ⟨oc2, od2, .func (PySem.W.fnOf "members" "members" (defArgs s_members) (defBody s_members) (defScope s_members) .none kV2 dc2 pm2 an2 cd2 ct2), sl2⟩)
    (c2 : PySem.W.codeIn K cd2 "members" = true)
    (k2 : PySem.W.keepIn K (.ref f2) = true)
    (a3 : PySem.W.nsIn K mainGlobals "parity" = some (some (.ref f3)))
    (l3 : K.lookup f3 = some ⟨oc3, od3, .func (PySem.W.fnOf "parity" "parity" (defArgs s_parity) (defBody s_parity) (defScope s_parity) .none kV3 dc3 pm3 an3 cd3 ct3), sl3⟩)
    (c3 : PySem.W.codeIn K cd3 "parity" = true)
    (k3 : PySem.W.keepIn K (.ref f3) = true)
    (a4 : PySem.W.nsIn K mainGlobals "reduced" = some (some (.ref f4)))
    (l4 : K.lookup f4 = some ⟨oc4, od4, .func (PySem.W.fnOf "reduced" "reduced" (defArgs s_reduced) (defBody s_reduced) (defScope s_reduced) .none kV4 dc4 pm4 an4 cd4 ct4), sl4⟩)
    (c4 : PySem.W.codeIn K cd4 "reduced" = true)
    (k4 : PySem.W.keepIn K (.ref f4) = true)
    (a5 : PySem.W.nsIn K mainGlobals "first_solution" = some (some (.ref f5)))
    (l5 : K.lookup f5 = some ⟨oc5, od5, .func (PySem.W.fnOf "first_solution" "first_solution" (defArgs s_first_solution) (defBody s_first_solution) (defScope s_first_solution) .none kV5 dc5 pm5 an5 cd5 ct5), sl5⟩)
    (c5 : PySem.W.codeIn K cd5 "first_solution" = true)
    (k5 : PySem.W.keepIn K (.ref f5) = true)
    (a6 : PySem.W.nsIn K mainGlobals "allowed" = some (some (.ref f6)))
    (l6 : K.lookup f6 = some ⟨oc6, od6, .func (PySem.W.fnOf "allowed" "allowed" (defArgs s_allowed) (defBody s_allowed) (defScope s_allowed) .none kV6 dc6 pm6 an6 cd6 ct6), sl6⟩)
    (c6 : PySem.W.codeIn K cd6 "allowed" = true)
    (k6 : PySem.W.keepIn K (.ref f6) = true)
    (a7 : PySem.W.nsIn K mainGlobals "needs_itself" = some (some (.ref f7)))
    (l7 : K.lookup f7 = some ⟨oc7, od7, .func (PySem.W.fnOf "needs_itself" "needs_itself" (defArgs s_needs_itself) (defBody s_needs_itself) (defScope s_needs_itself) .none kV7 dc7 pm7 an7 cd7 ct7), sl7⟩)
    (c7 : PySem.W.codeIn K cd7 "needs_itself" = true)
    (k7 : PySem.W.keepIn K (.ref f7) = true)
    (a8 : PySem.W.nsIn K mainGlobals "correction" = some (some (.ref f8)))
    (l8 : K.lookup f8 = some ⟨oc8, od8, .func (PySem.W.fnOf "correction" "correction" (defArgs s_correction) (defBody s_correction) (defScope s_correction) .none kV8 dc8 pm8 an8 cd8 ct8), sl8⟩)
    (c8 : PySem.W.codeIn K cd8 "correction" = true)
    (k8 : PySem.W.keepIn K (.ref f8) = true)
    (a9 : PySem.W.nsIn K mainGlobals "even_set" = some (some (.ref f9)))
    (l9 : K.lookup f9 = some ⟨oc9, od9, .func (PySem.W.fnOf "even_set" "even_set" (defArgs s_even_set) (defBody s_even_set) (defScope s_even_set) .none kV9 dc9 pm9 an9 cd9 ct9), sl9⟩)
    (c9 : PySem.W.codeIn K cd9 "even_set" = true)
    (k9 : PySem.W.keepIn K (.ref f9) = true)
    (a10 : PySem.W.nsIn K mainGlobals "find_flow" = some (some (.ref f10)))
    (l10 : K.lookup f10 = some ⟨oc10, od10, .func (PySem.W.fnOf "find_flow" "find_flow" (defArgs s_find_flow) (defBody s_find_flow) (defScope s_find_flow) .none kV10 dc10 pm10 an10 cd10 ct10), sl10⟩)
    (c10 : PySem.W.codeIn K cd10 "find_flow" = true)
    (k10 : PySem.W.keepIn K (.ref f10) = true)
    (a11 : PySem.W.nsIn K mainGlobals "_law_state" = some (some (.ref f11)))
    (l11 : K.lookup f11 = some ⟨oc11, od11, .func (PySem.W.fnOf "_law_state" "_law_state" (defArgs s_law_state) (defBody s_law_state) (defScope s_law_state) .none kV11 dc11 pm11 an11 cd11 ct11), sl11⟩)
    (c11 : PySem.W.codeIn K cd11 "_law_state" = true)
    (k11 : PySem.W.keepIn K (.ref f11) = true)
    (a12 : PySem.W.nsIn K mainGlobals "_law_draw" = some (some (.ref f12)))
    (l12 : K.lookup f12 = some ⟨oc12, od12, .func (PySem.W.fnOf "_law_draw" "_law_draw" (defArgs s_law_draw) (defBody s_law_draw) (defScope s_law_draw) .none kV12 dc12 pm12 an12 cd12 ct12), sl12⟩)
    (c12 : PySem.W.codeIn K cd12 "_law_draw" = true)
    (k12 : PySem.W.keepIn K (.ref f12) = true)
    (a13 : PySem.W.nsIn K mainGlobals "_law_graph" = some (some (.ref f13)))
    (l13 : K.lookup f13 = some ⟨oc13, od13, .func (PySem.W.fnOf "_law_graph" "_law_graph" (defArgs s_law_graph) (defBody s_law_graph) (defScope s_law_graph) .none kV13 dc13 pm13 an13 cd13 ct13), sl13⟩)
    (c13 : PySem.W.codeIn K cd13 "_law_graph" = true)
    (k13 : PySem.W.keepIn K (.ref f13) = true)
    (a14 : PySem.W.nsIn K mainGlobals "_law_path" = some (some (.ref f14)))
    (l14 : K.lookup f14 = some ⟨oc14, od14, .func (PySem.W.fnOf "_law_path" "_law_path" (defArgs s_law_path) (defBody s_law_path) (defScope s_law_path) .none kV14 dc14 pm14 an14 cd14 ct14), sl14⟩)
    (c14 : PySem.W.codeIn K cd14 "_law_path" = true)
    (k14 : PySem.W.keepIn K (.ref f14) = true)
    (a15 : PySem.W.nsIn K mainGlobals "_law_near" = some (some (.ref f15)))
    (l15 : K.lookup f15 = some ⟨oc15, od15, .func (PySem.W.fnOf "_law_near" "_law_near" (defArgs s_law_near) (defBody s_law_near) (defScope s_law_near) .none kV15 dc15 pm15 an15 cd15 ct15), sl15⟩)
    (c15 : PySem.W.codeIn K cd15 "_law_near" = true)
    (k15 : PySem.W.keepIn K (.ref f15) = true)
    (a16 : PySem.W.nsIn K mainGlobals "_law_odd" = some (some (.ref f16)))
    (l16 : K.lookup f16 = some ⟨oc16, od16, .func (PySem.W.fnOf "_law_odd" "_law_odd" (defArgs s_law_odd) (defBody s_law_odd) (defScope s_law_odd) .none kV16 dc16 pm16 an16 cd16 ct16), sl16⟩)
    (c16 : PySem.W.codeIn K cd16 "_law_odd" = true)
    (k16 : PySem.W.keepIn K (.ref f16) = true)
    (a17 : PySem.W.nsIn K mainGlobals "_law_does" = some (some (.ref f17)))
    (l17 : K.lookup f17 = some ⟨oc17, od17, .func (PySem.W.fnOf "_law_does" "_law_does" (defArgs s_law_does) (defBody s_law_does) (defScope s_law_does) .none kV17 dc17 pm17 an17 cd17 ct17), sl17⟩)
    (c17 : PySem.W.codeIn K cd17 "_law_does" = true)
    (k17 : PySem.W.keepIn K (.ref f17) = true)
    (a18 : PySem.W.nsIn K mainGlobals "_law_sets" = some (some (.ref f18)))
    (l18 : K.lookup f18 = some ⟨oc18, od18, .func (PySem.W.fnOf "_law_sets" "_law_sets" (defArgs s_law_sets) (defBody s_law_sets) (defScope s_law_sets) .none kV18 dc18 pm18 an18 cd18 ct18), sl18⟩)
    (c18 : PySem.W.codeIn K cd18 "_law_sets" = true)
    (k18 : PySem.W.keepIn K (.ref f18) = true)
    (a19 : PySem.W.nsIn K mainGlobals "_law_soonest" = some (some (.ref f19)))
    (l19 : K.lookup f19 = some ⟨oc19, od19, .func (PySem.W.fnOf "_law_soonest" "_law_soonest" (defArgs s_law_soonest) (defBody s_law_soonest) (defScope s_law_soonest) .none kV19 dc19 pm19 an19 cd19 ct19), sl19⟩)
    (c19 : PySem.W.codeIn K cd19 "_law_soonest" = true)
    (k19 : PySem.W.keepIn K (.ref f19) = true)
    (a20 : PySem.W.nsIn K mainGlobals "_law_bars" = some (some (.ref f20)))
    (l20 : K.lookup f20 = some ⟨oc20, od20, .func (PySem.W.fnOf "_law_bars" "_law_bars" (defArgs s_law_bars) (defBody s_law_bars) (defScope s_law_bars) .none kV20 dc20 pm20 an20 cd20 ct20), sl20⟩)
    (c20 : PySem.W.codeIn K cd20 "_law_bars" = true)
    (k20 : PySem.W.keepIn K (.ref f20) = true)
    (a21 : PySem.W.nsIn K mainGlobals "_law_barrier" = some (some (.ref f21)))
    (l21 : K.lookup f21 = some ⟨oc21, od21, .func (PySem.W.fnOf "_law_barrier" "_law_barrier" (defArgs s_law_barrier) (defBody s_law_barrier) (defScope s_law_barrier) .none kV21 dc21 pm21 an21 cd21 ct21), sl21⟩)
    (c21 : PySem.W.codeIn K cd21 "_law_barrier" = true)
    (k21 : PySem.W.keepIn K (.ref f21) = true)
    (a22 : PySem.W.nsIn K mainGlobals "law" = some (some (.ref f22)))
    (l22 : K.lookup f22 = some ⟨oc22, od22, .func (PySem.W.fnOf "law" "law" (defArgs s_law) (defBody s_law) (defScope s_law) .none kV22 dc22 pm22 an22 cd22 ct22), sl22⟩)
    (c22 : PySem.W.codeIn K cd22 "law" = true)
    (k22 : PySem.W.keepIn K (.ref f22) = true)
    (z0 : PySem.W.nsIn K mainGlobals "len" = some none)
    (z1 : PySem.W.nsIn K mainGlobals "tuple" = some none)
    (z2 : PySem.W.nsIn K mainGlobals "list" = some none)
    (z3 : PySem.W.nsIn K mainGlobals "sorted" = some none)
    (z4 : PySem.W.nsIn K mainGlobals "sum" = some none)
    (z5 : PySem.W.nsIn K mainGlobals "abs" = some none)
    (z6 : PySem.W.nsIn K mainGlobals "int" = some none)
    (z7 : PySem.W.nsIn K mainGlobals "bool" = some none)
    (z8 : PySem.W.nsIn K mainGlobals "max" = some none)
    (z9 : PySem.W.nsIn K mainGlobals "min" = some none)
    (z10 : PySem.W.nsIn K mainGlobals "any" = some none)
    (z11 : PySem.W.nsIn K mainGlobals "all" = some none)
    (z12 : PySem.W.nsIn K mainGlobals "isinstance" = some none)
    (z13 : PySem.W.nsIn K mainGlobals "str" = some none)
    (z14 : PySem.W.nsIn K mainGlobals "range" = some none)
    (z15 : PySem.W.nsIn K mainGlobals "enumerate" = some none)
    (z16 : PySem.W.nsIn K mainGlobals "zip" = some none)
    (z17 : PySem.W.nsIn K mainGlobals "reversed" = some none)
    (z18 : PySem.W.nsIn K mainGlobals "set" = some none)
    (z19 : PySem.W.nsIn K mainGlobals "repr" = some none)
    (main : ∀ ns : List Int, ns.length ≤ 63 → ∃ st', Eng.execs (Eng.run gl tab 20) gl b_law rho0 (some (ns.map absN, seedN ns + 1)) = .ok (.ret (.bool true)) st') :
    RepEnd.LawAtR l w K 63 mg fa h := by
  have e := hfa.symm.trans (PySem.W.mg_of X G a22)
  cases e
  have F0 := fun_mk (st := s_neighbours) l0 c0 k0
  have b0 := F0.binds (ps := ["graph", "vertex"]) fun _ _ _ _ _ _ us hl => match us, hl with | [_, _], _ => rfl
  have F1 := fun_mk (st := s_mask_of) l1 c1 k1
  have b1 := F1.binds (ps := ["some"]) fun _ _ _ _ _ _ us hl => match us, hl with | [_], _ => rfl
  have F2 := fun_mk (st := s_members) l2 c2 k2
  have b2 := F2.binds (ps := ["mask"]) fun _ _ _ _ _ _ us hl => match us, hl with | [_], _ => rfl
  have F3 := fun_mk (st := s_parity) l3 c3 k3
  have b3 := F3.binds (ps := ["mask"]) fun _ _ _ _ _ _ us hl => match us, hl with | [_], _ => rfl
  have F4 := fun_mk (st := s_reduced) l4 c4 k4
  have b4 := F4.binds (ps := ["basis", "row", "bit"]) fun _ _ _ _ _ _ us hl => match us, hl with | [_, _, _], _ => rfl
  have F5 := fun_mk (st := s_first_solution) l5 c5 k5
  have b5 := F5.binds (ps := ["rows", "many"]) fun _ _ _ _ _ _ us hl => match us, hl with | [_, _], _ => rfl
  have F6 := fun_mk (st := s_allowed) l6 c6 k6
  have b6 := F6.binds (ps := ["graph", "later"]) fun _ _ _ _ _ _ us hl => match us, hl with | [_, _], _ => rfl
  have F7 := fun_mk (st := s_needs_itself) l7 c7 k7
  have b7 := F7.binds (ps := ["graph", "vertex"]) fun _ _ _ _ _ _ us hl => match us, hl with | [_, _], _ => rfl
  have F8 := fun_mk (st := s_correction) l8 c8 k8
  have b8 := F8.binds (ps := ["graph", "vertex", "later"]) fun _ _ _ _ _ _ us hl => match us, hl with | [_, _, _], _ => rfl
  have F9 := fun_mk (st := s_even_set) l9 c9 k9
  have b9 := F9.binds (ps := ["graph", "vertex", "held"]) fun _ _ _ _ _ _ us hl => match us, hl with | [_, _, _], _ => rfl
  have F10 := fun_mk (st := s_find_flow) l10 c10 k10
  have b10 := F10.binds (ps := ["graph"]) fun _ _ _ _ _ _ us hl => match us, hl with | [_], _ => rfl
  have F11 := fun_mk (st := s_law_state) l11 c11 k11
  have b11 := F11.binds (ps := ["script"]) fun _ _ _ _ _ _ us hl => match us, hl with | [_], _ => rfl
  have F12 := fun_mk (st := s_law_draw) l12 c12 k12
  have b12 := F12.binds (ps := ["state", "many"]) fun _ _ _ _ _ _ us hl => match us, hl with | [_, _], _ => rfl
  have F13 := fun_mk (st := s_law_graph) l13 c13 k13
  have b13 := F13.binds (ps := ["state", "most", "all_planes"]) fun _ _ _ _ _ _ us hl => match us, hl with | [_, _, _], _ => rfl
  have F14 := fun_mk (st := s_law_path) l14 c14 k14
  have b14 := F14.binds (ps := ["state", "most"]) fun _ _ _ _ _ _ us hl => match us, hl with | [_, _], _ => rfl
  have F15 := fun_mk (st := s_law_near) l15 c15 k15
  have b15 := F15.binds (ps := ["graph", "vertex"]) fun _ _ _ _ _ _ us hl => match us, hl with | [_, _], _ => rfl
  have F16 := fun_mk (st := s_law_odd) l16 c16 k16
  have b16 := F16.binds (ps := ["graph", "some"]) fun _ _ _ _ _ _ us hl => match us, hl with | [_, _], _ => rfl
  have F17 := fun_mk (st := s_law_does) l17 c17 k17
  have b17 := F17.binds (ps := ["graph", "vertex", "some", "later"]) fun _ _ _ _ _ _ us hl => match us, hl with | [_, _, _, _], _ => rfl
  have F18 := fun_mk (st := s_law_sets) l18 c18 k18
  have b18 := F18.binds (ps := ["many"]) fun _ _ _ _ _ _ us hl => match us, hl with | [_], _ => rfl
  have F19 := fun_mk (st := s_law_soonest) l19 c19 k19
  have b19 := F19.binds (ps := ["graph"]) fun _ _ _ _ _ _ us hl => match us, hl with | [_], _ => rfl
  have F20 := fun_mk (st := s_law_bars) l20 c20 k20
  have b20 := F20.binds (ps := ["graph", "held", "vertex", "some"]) fun _ _ _ _ _ _ us hl => match us, hl with | [_, _, _, _], _ => rfl
  have F21 := fun_mk (st := s_law_barrier) l21 c21 k21
  have b21 := F21.binds (ps := ["graph", "held"]) fun _ _ _ _ _ _ us hl => match us, hl with | [_, _], _ => rfl
  have F22 := fun_mk (st := s_law) l22 c22 k22
  have blt : ∀ x ∈ bltB, mg x = none := by
    intro x hx
    simp only [bltB, List.mem_cons, List.not_mem_nil, or_false] at hx
    rcases hx with rfl | rfl | rfl | rfl | rfl | rfl | rfl | rfl | rfl | rfl | rfl | rfl | rfl | rfl | rfl | rfl | rfl | rfl | rfl | rfl
    · exact PySem.W.mg_none_of X G z0
    · exact PySem.W.mg_none_of X G z1
    · exact PySem.W.mg_none_of X G z2
    · exact PySem.W.mg_none_of X G z3
    · exact PySem.W.mg_none_of X G z4
    · exact PySem.W.mg_none_of X G z5
    · exact PySem.W.mg_none_of X G z6
    · exact PySem.W.mg_none_of X G z7
    · exact PySem.W.mg_none_of X G z8
    · exact PySem.W.mg_none_of X G z9
    · exact PySem.W.mg_none_of X G z10
    · exact PySem.W.mg_none_of X G z11
    · exact PySem.W.mg_none_of X G z12
    · exact PySem.W.mg_none_of X G z13
    · exact PySem.W.mg_none_of X G z14
    · exact PySem.W.mg_none_of X G z15
    · exact PySem.W.mg_none_of X G z16
    · exact PySem.W.mg_none_of X G z17
    · exact PySem.W.mg_none_of X G z18
    · exact PySem.W.mg_none_of X G z19
  have con : ∀ (i : Nat) (x : Str), gls[i]? = some x → ∃ u v d, mg x = some u ∧ RelV v u ∧ gl[i]? = some d ∧ ∀ sa F, Eng.Rp K sa F v d := fun i x e => by
    match i, e with
    | n, e => cases (show (none : Option Str) = some x from e)
  have tb0 : ∀ p ∈ ([] : List (Addr × Addr)), h.get? p.2 = some { cls := .none, data := .fields #[] } := by
    intro p hp
    cases hp
  have tb1 : ∀ p ∈ ([] : List (Addr × Addr)), K.lookup p.2 = none := by
    intro p hp
    cases hp
  have tb2 : ∀ p ∈ ([] : List (Addr × Addr)), PySem.W.CodeHd h p.1 p.2 := by
    intro p hp
    cases hp
  refine ⟨[], tb0, tb1, tb2, fun base H s a ns hl _ _ hB hT hS e0 => ?_⟩
  have T : Tab (0 + 1) l.prog w K mg base [] (fun _ _ _ _ => False) tab gls gl := by
    refine ⟨blt, con, fun f d e => ?_, fun f x n sem e => ?_⟩
    · match f, e with
      | 0, e =>
        cases (show some (Ent.df fd_neighbours) = some (Ent.df d) from e)
        exact ⟨_, _, F0, PySem.W.mg_of X G a0, b0, sc_neighbours, by decide, ck_neighbours, (fun z => by cases z)⟩
      | 1, e =>
        cases (show some (Ent.df fd_mask_of) = some (Ent.df d) from e)
        exact ⟨_, _, F1, PySem.W.mg_of X G a1, b1, sc_mask_of, by decide, ck_mask_of, (fun z => by cases z)⟩
      | 2, e =>
        cases (show some (Ent.df fd_members) = some (Ent.df d) from e)
        exact ⟨_, _, F2, PySem.W.mg_of X G a2, b2, sc_members, by decide, ck_members, (fun z => by cases z)⟩
      | 3, e =>
        cases (show some (Ent.df fd_parity) = some (Ent.df d) from e)
        exact ⟨_, _, F3, PySem.W.mg_of X G a3, b3, sc_parity, by decide, ck_parity, (fun z => by cases z)⟩
      | 4, e =>
        cases (show some (Ent.df fd_reduced) = some (Ent.df d) from e)
        exact ⟨_, _, F4, PySem.W.mg_of X G a4, b4, sc_reduced, by decide, ck_reduced, (fun z => by cases z)⟩
      | 5, e =>
        cases (show some (Ent.df fd_first_solution) = some (Ent.df d) from e)
        exact ⟨_, _, F5, PySem.W.mg_of X G a5, b5, sc_first_solution, by decide, ck_first_solution, (fun z => by cases z)⟩
      | 6, e =>
        cases (show some (Ent.df fd_allowed) = some (Ent.df d) from e)
        exact ⟨_, _, F6, PySem.W.mg_of X G a6, b6, sc_allowed, by decide, ck_allowed, (fun z => by cases z)⟩
      | 7, e =>
        cases (show some (Ent.df fd_needs_itself) = some (Ent.df d) from e)
        exact ⟨_, _, F7, PySem.W.mg_of X G a7, b7, sc_needs_itself, by decide, ck_needs_itself, (fun z => by cases z)⟩
      | 8, e =>
        cases (show some (Ent.df fd_correction) = some (Ent.df d) from e)
        exact ⟨_, _, F8, PySem.W.mg_of X G a8, b8, sc_correction, by decide, ck_correction, (fun z => by cases z)⟩
      | 9, e =>
        cases (show some (Ent.df fd_even_set) = some (Ent.df d) from e)
        exact ⟨_, _, F9, PySem.W.mg_of X G a9, b9, sc_even_set, by decide, ck_even_set, (fun z => by cases z)⟩
      | 10, e =>
        cases (show some (Ent.df fd_find_flow) = some (Ent.df d) from e)
        exact ⟨_, _, F10, PySem.W.mg_of X G a10, b10, sc_find_flow, by decide, ck_find_flow, (fun z => by cases z)⟩
      | 11, e => cases (show some (Ent.pr "_law_draw" 2 drawS) = some (Ent.df d) from e)
      | 12, e =>
        cases (show some (Ent.df fd_law_graph) = some (Ent.df d) from e)
        exact ⟨_, _, F13, PySem.W.mg_of X G a13, b13, sc_law_graph, by decide, ck_law_graph, (fun z => by cases z)⟩
      | 13, e =>
        cases (show some (Ent.df fd_law_path) = some (Ent.df d) from e)
        exact ⟨_, _, F14, PySem.W.mg_of X G a14, b14, sc_law_path, by decide, ck_law_path, (fun z => by cases z)⟩
      | 14, e =>
        cases (show some (Ent.df fd_law_near) = some (Ent.df d) from e)
        exact ⟨_, _, F15, PySem.W.mg_of X G a15, b15, sc_law_near, by decide, ck_law_near, (fun z => by cases z)⟩
      | 15, e =>
        cases (show some (Ent.df fd_law_odd) = some (Ent.df d) from e)
        exact ⟨_, _, F16, PySem.W.mg_of X G a16, b16, sc_law_odd, by decide, ck_law_odd, (fun z => by cases z)⟩
      | 16, e =>
        cases (show some (Ent.df fd_law_does) = some (Ent.df d) from e)
        exact ⟨_, _, F17, PySem.W.mg_of X G a17, b17, sc_law_does, by decide, ck_law_does, (fun z => by cases z)⟩
      | 17, e =>
        cases (show some (Ent.df fd_law_sets) = some (Ent.df d) from e)
        exact ⟨_, _, F18, PySem.W.mg_of X G a18, b18, sc_law_sets, by decide, ck_law_sets, (fun z => by cases z)⟩
      | 18, e =>
        cases (show some (Ent.df fd_law_soonest) = some (Ent.df d) from e)
        exact ⟨_, _, F19, PySem.W.mg_of X G a19, b19, sc_law_soonest, by decide, ck_law_soonest, (fun z => by cases z)⟩
      | 19, e =>
        cases (show some (Ent.df fd_law_bars) = some (Ent.df d) from e)
        exact ⟨_, _, F20, PySem.W.mg_of X G a20, b20, sc_law_bars, by decide, ck_law_bars, (fun z => by cases z)⟩
      | 20, e =>
        cases (show some (Ent.df fd_law_barrier) = some (Ent.df d) from e)
        exact ⟨_, _, F21, PySem.W.mg_of X G a21, b21, sc_law_barrier, by decide, ck_law_barrier, (fun z => by cases z)⟩
      | q + 21, e => cases (show (none : Option Ent) = some _ from e)
    · match f, e with
      | 0, e => cases (show some (Ent.df fd_neighbours) = some (Ent.pr x n sem) from e)
      | 1, e => cases (show some (Ent.df fd_mask_of) = some (Ent.pr x n sem) from e)
      | 2, e => cases (show some (Ent.df fd_members) = some (Ent.pr x n sem) from e)
      | 3, e => cases (show some (Ent.df fd_parity) = some (Ent.pr x n sem) from e)
      | 4, e => cases (show some (Ent.df fd_reduced) = some (Ent.pr x n sem) from e)
      | 5, e => cases (show some (Ent.df fd_first_solution) = some (Ent.pr x n sem) from e)
      | 6, e => cases (show some (Ent.df fd_allowed) = some (Ent.pr x n sem) from e)
      | 7, e => cases (show some (Ent.df fd_needs_itself) = some (Ent.pr x n sem) from e)
      | 8, e => cases (show some (Ent.df fd_correction) = some (Ent.pr x n sem) from e)
      | 9, e => cases (show some (Ent.df fd_even_set) = some (Ent.pr x n sem) from e)
      | 10, e => cases (show some (Ent.df fd_find_flow) = some (Ent.pr x n sem) from e)
      | 11, e =>
        cases (show some (Ent.pr "_law_draw" 2 drawS) = some (Ent.pr x n sem) from e)
        exact ⟨_, _, ["state", "many"], rfl, (ok_draw 11 F12 (PySem.W.mg_none_of X G z6) (PySem.W.mg_none_of X G z0)).mono (by omega), PySem.W.mg_of X G a12, F12.kp, b12⟩
      | 12, e => cases (show some (Ent.df fd_law_graph) = some (Ent.pr x n sem) from e)
      | 13, e => cases (show some (Ent.df fd_law_path) = some (Ent.pr x n sem) from e)
      | 14, e => cases (show some (Ent.df fd_law_near) = some (Ent.pr x n sem) from e)
      | 15, e => cases (show some (Ent.df fd_law_odd) = some (Ent.pr x n sem) from e)
      | 16, e => cases (show some (Ent.df fd_law_does) = some (Ent.pr x n sem) from e)
      | 17, e => cases (show some (Ent.df fd_law_sets) = some (Ent.pr x n sem) from e)
      | 18, e => cases (show some (Ent.df fd_law_soonest) = some (Ent.pr x n sem) from e)
      | 19, e => cases (show some (Ent.df fd_law_bars) = some (Ent.pr x n sem) from e)
      | 20, e => cases (show some (Ent.df fd_law_barrier) = some (Ent.pr x n sem) from e)
      | q + 21, e => cases (show (none : Option Ent) = some _ from e)
  have hTB : ∀ P ∈ ([] : List Addr), GxR.TabG H P := by
    intro P hP
    cases hP
  exact ok_law T F22 F11 b11 (PySem.W.mg_of X G a11) (PySem.W.mg_none_of X G z6) (PySem.W.mg_none_of X G z5) main (fun s v => .of_eq rfl) ⟨rfl, by decide, by decide⟩ hTB hS hl e0
end L_k04

end
section
set_option Elab.async false
set_option linter.all false
set_option maxRecDepth 100000
set_option maxHeartbeats 4000000
set_option autoImplicit false
/-! GraA: functions of graphs that many laws share, for any table of functions: neighbours, odd_set, sum_of and the law's own. -/
namespace Gra
open PySem PySem.Spec PyProof.Rows L2 Eng
section
variable {cl : Calls} {gl : List D} {ρ : Eng.Env} {o : Bool} {st st1 st2 : Sta}
/-! ### steps -/
theorem qevs_map {α : Type} {φ : α → D} {p : α → Bool} {q : QE} : ∀ (xs : List α), (∀ x ∈ xs, (φ x).canLay0 = true ∧ qev ρ (φ x) q = some (.bool (p x))) → qevs ρ q (xs.map φ) = some (xs.map p)
  | [], _ => rfl
  | x :: xs, h => by
    obtain ⟨h1, h2⟩ := h x (List.mem_cons_self ..)
    have ih := qevs_map xs fun y hy => h y (List.mem_cons_of_mem _ hy)
    simp only [List.map_cons, qevs, h1, h2, ih]
theorem e_quant {α : Type} {φ : α → D} {xs : List α} (p : α → Bool) {al : Bool} {it : Eng.It} {q : QE} (h1 : evIt cl gl ρ true it st = .ok (xs.map φ) st1) (h2 : ∀ x ∈ xs, (φ x).canLay0 = true ∧ qev ρ (φ x) q = some (.bool (p x))) :
    ev cl gl ρ o (.quant al it q) st = .ok (.bool (if al then xs.all p else xs.any p)) st1 := by
  simp only [ev, h1, R.bind_ok, qevs_map xs h2, Option.map_some, R.of_some, List.all_map, List.any_map]
  congr 1
theorem q_var {i : Nat} {d x : D} (h : ρ[i]? = some (.val d)) (hl : d.canLay0 = true) : qev ρ x (.var i) = some d := by simp only [qev, h, hl, if_true]
theorem q_idxT {x : D} {a b : QE} {ds : List D} {i : Nat} {d : D} (h1 : qev ρ x a = some (.tuple ds)) (h2 : qev ρ x b = some (.int (i : Nat))) (h3 : ds[i]? = some d) (h4 : ds.length ≤ sizeLine) : qev ρ x (.idx a b) = some d := by
  simp only [qev, h1, h2, Option.bind_some, idxQ, h4, if_true]
  exact atI_nat h3
theorem q_cmp {op : COp} {x d e : D} {a b : QE} {k : Bool} (h1 : qev ρ x a = some d) (h2 : qev ρ x b = some e) (h3 : cmpQ op d e = some k) : qev ρ x (.cmp op a b) = some (.bool k) := by
  simp only [qev, h1, h2, Option.bind_some, h3, Option.map_some]
theorem q_or {x : D} {a b : QE} {k1 k2 : Bool} (h1 : qev ρ x a = some (.bool k1)) (h2 : qev ρ x b = some (.bool k2)) : qev ρ x (.or a b) = some (.bool (k1 || k2)) := by
  cases k1 <;> simp [qev, h1, h2]
theorem q_innT (i : Int) (ns : List Int) : cmpQ .inn (.int i) (.tuple (ns.map .int)) = some (decide (i ∈ ns)) := by
  have h1 : SeqAt.shaped (.int i) = true := sh_shaped (n := 0) rfl (by decide)
  have h2 : SeqAt.shaped (.tuple (ns.map .int)) = true := sh_shaped (Emb.int.tup.sh ns) (by decide)
  show (if _ then _ else _) = _
  rw [h1, h2]
  exact congrArg some (Emb.int.any i ns)
theorem q_innL (i : Int) (ns : List Int) : cmpQ .inn (.int i) (.list (ns.map .int)) = some (decide (i ∈ ns)) := by
  have h1 : SeqAt.shaped (.int i) = true := sh_shaped (n := 0) rfl (by decide)
  have h2 : SeqAt.shaped (.list (ns.map .int)) = true := sh_shaped (Emb.int.lst.sh ns) (by decide)
  show (if _ then _ else _) = _
  rw [h1, h2]
  exact congrArg some (Emb.int.any i ns)
theorem q_eqI (i j : Int) : cmpQ .eq (.int i) (.int j) = some (decide (i = j)) := eqD_int i j
/-- a list or a tuple of ints -/
def IsSeq (d : D) (ns : List Int) : Prop := d = .tuple (ns.map .int) ∨ d = .list (ns.map .int)
theorem IsSeq.lay {d : D} {ns : List Int} (h : IsSeq d ns) : d.canLay0 = true := by
  rcases h with rfl | rfl
  · exact (Bool.and_eq_true _ _ ▸ Emb.int.tup.sh ns).1
  · exact (Bool.and_eq_true _ _ ▸ Emb.int.lst.sh ns).1
theorem IsSeq.qin {d : D} {ns : List Int} (h : IsSeq d ns) (i : Int) : cmpQ .inn (.int i) d = some (decide (i ∈ ns)) := by
  rcases h with rfl | rfl
  · exact q_innT i ns
  · exact q_innL i ns
theorem IsSeq.nin {d : D} {ns : List Int} (h : IsSeq d ns) (i : Int) : cmpD .nin (.int i) d = some (!decide (i ∈ ns)) := by
  rcases h with rfl | rfl
  · exact c_nin i ns
  · exact c_ninL i ns
theorem IsSeq.inn {d : D} {ns : List Int} (h : IsSeq d ns) (i : Int) : cmpD .inn (.int i) d = some (decide (i ∈ ns)) := by
  rcases h with rfl | rfl
  · exact c_inn i ns
  · exact c_innL i ns
theorem e_sset {a : E} {ns : List Int} (h : ev cl gl ρ true a st = .ok (.tuple (ns.map .int)) st1) (hl : ns.length ≤ 60) : ev cl gl ρ o (.sset a) st = .ok (.list ((ssetL ns).map .int)) st1 := by
  simp only [ev, h, R.bind_ok, ssetD, intsD_map, Option.bind_some, hl, if_true, R.of_some]
end

/-! ### the functions' bodies -/
def bNb : Ss :=
 (.cons (.set 2 (.comp [("one", 3), ("other", 4)] (.tup (.cons (.name 3) (.cons (.name 4) .nil))) (.seq (.idx (.var 0) (.const (.int 1)))) (.some (.cmp .eq (.var 3) (.var 1))) (.var 4))) (.cons (.ret (.bi .tuple (.bi .sorted (.bin .add (.var 2) (.comp [("one", 3), ("other", 4)] (.tup (.cons (.name 3) (.cons (.name 4) .nil))) (.seq (.idx (.var 0) (.const (.int 1)))) (.some (.cmp .eq (.var 4) (.var 1))) (.var 3)))))) .nil))
def bNear : Ss :=
 (.cons (.set 2 (.comp [("one", 3), ("other", 4)] (.tup (.cons (.name 3) (.cons (.name 4) .nil))) (.seq (.idx (.var 0) (.const (.int 1)))) (.some (.cmp .eq (.var 3) (.var 1))) (.var 4))) (.cons (.ret (.bi .sorted (.bin .add (.var 2) (.comp [("one", 3), ("other", 4)] (.tup (.cons (.name 3) (.cons (.name 4) .nil))) (.seq (.idx (.var 0) (.const (.int 1)))) (.some (.cmp .eq (.var 4) (.var 1))) (.var 3))))) .nil))
def bOdd (is ib : Nat) : Ss :=
 (.cons (.set 2 (.tup .nil)) (.cons (.for (.name 3) (.seq (.var 1))
 (.cons (.set 2 (.call is (.cons (.var 2) (.cons (.call ib (.cons (.var 0) (.cons (.var 3) .nil))) .nil)))) .nil))
 (.cons (.ret (.var 2)) .nil)))
def bSum : Ss :=
 (.cons (.set 2 (.comp [("vertex", 3)] (.name 3) (.seq (.var 0)) (.some (.cmp .nin (.var 3) (.var 1))) (.var 3))) (.cons (.ret (.bi .tuple (.bi .sorted (.bin .add (.var 2) (.comp [("vertex", 3)] (.name 3) (.seq (.var 1)) (.some (.cmp .nin (.var 3) (.var 0))) (.var 3)))))) .nil))
def bLOdd (ir : Nat) : Ss :=
 (.cons (.setO 2 (.lst .nil)) (.cons (.for (.name 3) (.rng1 (.idx (.var 0) (.const (.int 0))))
 (.cons (.ite (.cmp .eq (.bin .mod (.bi .int (.bi .len (.comp [("one", 4)] (.name 4) (.seq (.call ir (.cons (.var 0) (.cons (.var 3) .nil)))) (.some (.cmp .inn (.var 4) (.var 1))) (.var 4)))) (.const (.int 2))) (.const (.int 1)))
 (.cons (.app 2 (.var 3)) .nil)
 .nil)
 .nil))
 (.cons (.frz 2) (.cons (.ret (.var 2)) .nil))))
def fdNb (s : Stmt) : FD := { name := "neighbours", ps := ["graph", "vertex"], N := ["graph", "vertex", "found", "one", "other"], st := s, body := bNb }
def fdNear (s : Stmt) : FD := { name := "_law_near", ps := ["graph", "vertex"], N := ["graph", "vertex", "found", "one", "other"], st := s, body := bNear }
def fdOdd (s : Stmt) (is ib : Nat) : FD := { name := "odd_set", ps := ["graph", "some"], N := ["graph", "some", "told", "vertex"], st := s, body := bOdd is ib }
def fdSum (s : Stmt) : FD := { name := "sum_of", ps := ["one", "other"], N := ["one", "other", "found", "vertex"], st := s, body := bSum }
def fdLOdd (s : Stmt) (ir : Nat) : FD := { name := "_law_odd", ps := ["graph", "some"], N := ["graph", "some", "found", "vertex", "one"], st := s, body := bLOdd ir }

def graphD (n : Nat) (es : List (Int × Int)) (ins outs : List Int) (pl : D) : D := .tuple [.int n, .tuple (es.map edgeD), .tuple (ins.map .int), .tuple (outs.map .int), pl]
section
variable {gl : List D} {tab : List Ent} {k : Nat} {st : Sta} {n : Nat} {es : List (Int × Int)} {ins outs : List Int} {pl : D}
theorem nbr_c1 (he : es.length ≤ 100000) {v : Int} {cl : Calls} {s2 s3 s4 : Slot} {o : Bool} :
    ev cl gl [.val (graphD n es ins outs pl), .val (.int v), s2, s3, s4] o (.comp [("one", 3), ("other", 4)] (.tup (.cons (.name 3) (.cons (.name 4) .nil))) (.seq (.idx (.var 0) (.const (.int 1)))) (.some (.cmp .eq (.var 3) (.var 1))) (.var 4)) st = .ok (.list ((es.filter fun e => decide (e.1 = v)).map fun e => .int e.2)) st := by
  refine e_comp (φ := edgeD) (xs := es) (fun e => decide (e.1 = v)) (fun e => .int e.2) rfl (fun x _ => ⟨[.val (graphD n es ins outs pl), .val (.int v), s2, .val (.int x.1), .val (.int x.2)], rfl, i_some (e_cmp e_var e_var (c_eq _ _)), fun _ => e_var⟩) (szl (by omega))
theorem nbr_c2 (he : es.length ≤ 100000) {v : Int} {cl : Calls} {s2 s3 s4 : Slot} {o : Bool} :
    ev cl gl [.val (graphD n es ins outs pl), .val (.int v), s2, s3, s4] o (.comp [("one", 3), ("other", 4)] (.tup (.cons (.name 3) (.cons (.name 4) .nil))) (.seq (.idx (.var 0) (.const (.int 1)))) (.some (.cmp .eq (.var 4) (.var 1))) (.var 3)) st = .ok (.list ((es.filter fun e => decide (e.2 = v)).map fun e => .int e.1)) st := by
  refine e_comp (φ := edgeD) (xs := es) (fun e => decide (e.2 = v)) (fun e => .int e.1) rfl (fun x _ => ⟨[.val (graphD n es ins outs pl), .val (.int v), s2, .val (.int x.1), .val (.int x.2)], rfl, i_some (e_cmp e_var e_var (c_eq _ _)), fun _ => e_var⟩) (szl (by omega))
theorem len_f {α : Type} (p : α → Bool) (l : List α) : (l.filter p).length ≤ l.length := List.length_filter_le ..
theorem nbr_add (he : es.length ≤ 100000) (v : Int) : binD .add (.list ((es.filter fun e => decide (e.1 = v)).map fun e => .int e.2)) (.list ((es.filter fun e => decide (e.2 = v)).map fun e => .int e.1)) = some (.list ((((es.filter fun e => decide (e.1 = v)).map fun e => e.2) ++ ((es.filter fun e => decide (e.2 = v)).map fun e => e.1)).map .int)) := by
  rw [addB, addD_lst, List.map_append, List.map_map, List.map_map]
  · rfl
  · rw [List.length_map, List.length_map]
    have h1 := len_f (fun e : Int × Int => decide (e.1 = v)) es
    have h2 := len_f (fun e : Int × Int => decide (e.2 = v)) es
    exact szl (by omega)
theorem m_neighbours {i : Nat} {s : Stmt} (H : tab[i]? = some (.df (fdNb s))) (he : es.length ≤ 100000) (v : Int) : run gl tab (k + 1) i [graphD n es ins outs pl, .int v] st = .ok (.tuple ((nbr es v).map .int)) st := by
  refine r_ret H rfl ?_
  refine x_set (nbr_c1 he) (Nat.le_of_ble_eq_true rfl) (x_ret (e_bi (e_bi (e_bin e_var (nbr_c2 he) (nbr_add he v)) (sortedD _)) rfl))
theorem m_near {i : Nat} {s : Stmt} (H : tab[i]? = some (.df (fdNear s))) (he : es.length ≤ 100000) (v : Int) : run gl tab (k + 1) i [graphD n es ins outs pl, .int v] st = .ok (.list ((nbr es v).map .int)) st := by
  refine r_ret H rfl ?_
  refine x_set (nbr_c1 he) (Nat.le_of_ble_eq_true rfl) (x_ret (e_bi (e_bin e_var (nbr_c2 he) (nbr_add he v)) (sortedD _)))
theorem m_sum {i : Nat} {s : Stmt} (H : tab[i]? = some (.df (fdSum s))) (a b : List Int) (h : a.length + b.length ≤ 10000) : run gl tab (k + 1) i [.tuple (a.map .int), .tuple (b.map .int)] st = .ok (.tuple ((sumL a b).map .int)) st := by
  refine r_ret H rfl ?_
  refine x_set (e_comp (φ := .int) (xs := a) (fun v => !decide (v ∈ b)) .int (it_seqT e_var) (fun x _ => ⟨[.val (.tuple (a.map .int)), .val (.tuple (b.map .int)), .emp, .val (.int x)], rfl, i_some (e_cmp e_var e_var (c_nin _ _)), fun _ => e_var⟩) (szl (by omega))) (Nat.le_of_ble_eq_true rfl) ?_
  refine x_ret (e_bi (e_bi (e_bin e_var (e_comp (φ := .int) (xs := b) (fun v => !decide (v ∈ a)) .int (it_seqT e_var) (fun x _ => ⟨[.val (.tuple (a.map .int)), .val (.tuple (b.map .int)), .val (.list ((a.filter fun v => !decide (v ∈ b)).map .int)), .val (.int x)], rfl, i_some (e_cmp e_var e_var (c_nin _ _)), fun _ => e_var⟩) (szl (by omega)))
    (z := .list (((a.filter fun v => !decide (v ∈ b)) ++ (b.filter fun v => !decide (v ∈ a))).map .int)) ?_) (sortedD _)) rfl)
  rw [addB, addD_lst, List.map_append]
  rw [List.length_map, List.length_map]
  have h1 := len_f (fun v => !decide (v ∈ b)) a
  have h2 := len_f (fun v => !decide (v ∈ a)) b
  exact szl (by omega)
theorem ss_len {l : List Int} (h : SS l) (hi : ∀ x ∈ l, x ∈ rng n) : l.length ≤ n := VS.len ⟨h, hi⟩
theorem m_odd {i ib is : Nat} {s sb ss : Stmt} (H : tab[i]? = some (.df (fdOdd s is ib))) (Hs : tab[is]? = some (.df (fdSum ss))) (Hb : tab[ib]? = some (.df (fdNb sb))) (S : Simple n es) (he : es.length ≤ 100000) (hn : n ≤ 1000) (sm : List Int) : run gl tab (k + 2) i [graphD n es ins outs pl, .tuple (sm.map .int)] st = .ok (.tuple ((oddL es sm).map .int)) st := by
  refine r_ret H rfl ?_
  refine x_set (d := .tuple []) (e_tup es_nil (Nat.zero_le _)) (Nat.le_of_ble_eq_true rfl) ?_
  obtain ⟨ρ', st', h1, h2⟩ := for_map (tg := .name 3) (body := execs (run gl tab (k + 1)) gl (.cons (.set 2 (.call is (.cons (.var 2) (.cons (.call ib (.cons (.var 0) (.cons (.var 3) .nil))) .nil)))) .nil)) (φ := .int) (xs := sm) (st := st)
    (ρ := [.val (graphD n es ins outs pl), .val (.tuple (sm.map .int)), .val (.tuple []), .emp])
    (fun ys _ ρ s => s = st ∧ ∃ y, ρ = [.val (graphD n es ins outs pl), .val (.tuple (sm.map .int)), .val (.tuple ((oddF es [] ys).map .int)), y]) ⟨rfl, _, rfl⟩ (fun ys x zs ρ s e h => by
      obtain ⟨rfl, y, rfl⟩ := h
      refine ⟨_, rfl, [.val (graphD n es ins outs pl), .val (.tuple (sm.map .int)), .val (.tuple ((oddF es [] (ys ++ [x])).map .int)), .val (.int x)], s, .inl ?_, rfl, _, rfl⟩
      have e1 := (oddF_ok S ys [] List.Pairwise.nil).1
      have l1 := ss_len (n := n) e1 (fun z hz => oddL_rng S hz)
      have l2 := ss_len (n := n) (ss_nbr S x) (fun z hz => nbr_rng S hz)
      have e2 : oddF es [] (ys ++ [x]) = sumL (oddF es [] ys) (nbr es x) := by
        unfold oddF
        rw [List.foldl_append]
        rfl
      rw [e2]
      exact x_set (e_call (ea_cons e_var (ea_cons (e_call (ea_cons e_var (ea_cons e_var ea_nil)) (m_neighbours Hb he x)) ea_nil)) (m_sum Hs _ _ (by omega))) (Nat.le_of_ble_eq_true rfl) x_nil)
  obtain ⟨rfl, y, rfl⟩ := h2
  exact x_for (it_seqT e_var) h1 (x_ret e_var)
theorem m_lawodd {i ir : Nat} {s sr : Stmt} (H : tab[i]? = some (.df (fdLOdd s ir))) (Hr : tab[ir]? = some (.df (fdNear sr))) (S : Simple n es) (he : es.length ≤ 100000) (hn : n ≤ 1000) {sd : D} {sm : List Int} (hs : IsSeq sd sm) : run gl tab (k + 2) i [graphD n es ins outs pl, sd] st = .ok (.list ((oddR n es sm).map .int)) st := by
  refine r_ret H rfl ?_
  refine x_setO (ds := []) (e_lst es_nil (Nat.zero_le _)) (Nat.le_of_ble_eq_true rfl) ?_
  obtain ⟨ρ', st', h1, h2⟩ := for_map (tg := .name 3) (body := execs (run gl tab (k + 1)) gl (.cons (.ite (.cmp .eq (.bin .mod (.bi .int (.bi .len (.comp [("one", 4)] (.name 4) (.seq (.call ir (.cons (.var 0) (.cons (.var 3) .nil)))) (.some (.cmp .inn (.var 4) (.var 1))) (.var 4)))) (.const (.int 2))) (.const (.int 1)))
 (.cons (.app 2 (.var 3)) .nil) .nil) .nil)) (φ := .int) (xs := rng n) (st := st)
    (ρ := [.val (graphD n es ins outs pl), .val sd, .lst [], .emp, .emp])
    (fun ys _ ρ s => s = st ∧ ∃ y z, ρ = [.val (graphD n es ins outs pl), .val sd, .lst ((ys.filter fun v => decide ((((nbr es v).filter fun u => decide (u ∈ sm)).length : Int) % 2 = 1)).map .int), y, z]) ⟨rfl, _, _, rfl⟩ (fun ys x zs ρ s e h => by
      obtain ⟨rfl, y, z, rfl⟩ := h
      have l2 := ss_len (n := n) (ss_nbr S x) (fun z hz => nbr_rng S hz)
      refine ⟨_, rfl, [.val (graphD n es ins outs pl), .val sd, .lst (((ys ++ [x]).filter fun v => decide ((((nbr es v).filter fun u => decide (u ∈ sm)).length : Int) % 2 = 1)).map .int), .val (.int x), z], s, .inl ?_, rfl, _, _, rfl⟩
      have t : ev (run gl tab (k + 1)) gl [.val (graphD n es ins outs pl), .val sd, .lst ((ys.filter fun v => decide ((((nbr es v).filter fun u => decide (u ∈ sm)).length : Int) % 2 = 1)).map .int), .val (.int x), z] false (.cmp .eq (.bin .mod (.bi .int (.bi .len (.comp [("one", 4)] (.name 4) (.seq (.call ir (.cons (.var 0) (.cons (.var 3) .nil)))) (.some (.cmp .inn (.var 4) (.var 1))) (.var 4)))) (.const (.int 2))) (.const (.int 1))) s = .ok (.bool (decide ((((nbr es x).filter fun u => decide (u ∈ sm)).length : Int) % 2 = 1))) s :=
        e_cmp (e_bin (e_bi (e_bi (z := .int ((nbr es x).filter fun u => decide (u ∈ sm)).length) (e_comp (φ := .int) (xs := nbr es x) (fun u => decide (u ∈ sm)) .int (it_seqL (e_call (ea_cons e_var (ea_cons e_var ea_nil)) (m_near Hr he x)))
          (fun u _ => ⟨[.val (graphD n es ins outs pl), .val sd, .lst ((ys.filter fun v => decide ((((nbr es v).filter fun u => decide (u ∈ sm)).length : Int) % 2 = 1)).map .int), .val (.int x), .val (.int u)], rfl, i_some (e_cmp e_var e_var (hs.inn _)), fun _ => e_var⟩) (szl (by omega))) (by simp only [biD, List.length_map])) rfl) e_con (modD (by decide))) e_con (c_eq _ _)
      have ll : (ys.filter fun v => decide ((((nbr es v).filter fun u => decide (u ∈ sm)).length : Int) % 2 = 1)).length ≤ 1000 := by
        have h1 := len_f (fun v => decide ((((nbr es v).filter fun u => decide (u ∈ sm)).length : Int) % 2 = 1)) ys
        have h2 := congrArg List.length e
        rw [rng_len, List.length_append] at h2
        omega
      by_cases q : (((nbr es x).filter fun u => decide (u ∈ sm)).length : Int) % 2 = 1
      · rw [decide_eq_true q] at t
        refine x_iteT t (x_app rfl e_var (by rw [List.length_map]; exact szt (by omega)) x_nil) ?_
        rw [List.filter_append, List.map_append, List.filter_cons, decide_eq_true q]
        exact x_nil
      · rw [decide_eq_false q] at t
        refine x_skip t ?_
        rw [List.filter_append, List.map_append, List.filter_cons, decide_eq_false q]
        simp only [Bool.false_eq_true, if_false, List.filter_nil, List.map_nil, List.append_nil]
        exact x_nil)
  obtain ⟨rfl, y, z, rfl⟩ := h2
  exact x_for (evIt_rng1 (e_idx (y := .int 0) e_var e_con rfl) (low (by omega))) h1 (x_frzL rfl (x_ret e_var))
end
end Gra

end
section
set_option Elab.async false
set_option linter.all false
set_option maxRecDepth 100000
set_option maxHeartbeats 4000000
set_option autoImplicit false
/-! GraB: the open graphs that the laws draw. -/
namespace Gra
open PySem PySem.Spec PyProof.Rows L2 Eng
def wdS : Nat → Str
  | 0 => "" | 1 => "XY" | 2 => "XZ" | _ => "YZ"
def wD (w : Fin 4) : D := .str (wdS w.val)
theorem wEmb : Emb wD 0 := ⟨by decide +kernel, by decide +kernel⟩
def gD (n : Nat) (es : List (Int × Int)) (ins outs : List Int) (lab : List (Fin 4)) : D := graphD n es ins outs (.tuple (lab.map wD))
def ltE (q e : Int × Int) : Bool := HT.lexLt [q.1, q.2] [e.1, e.2]
def wOk (pa : Bool) (outs ins : List Int) (v : Int) (w : Fin 4) : Bool := if v ∈ outs then decide (w = 0) else if v ∈ ins then decide (w = 1) else decide (w ∈ ([1, 2, 3] : List (Fin 4))) && (pa || decide (w = 1))
theorem ltE_irr (e : Int × Int) : ltE e e = false := by
  unfold ltE
  rw [HT.lexLt_cons, if_pos rfl, HT.lexLt_cons, if_pos rfl]
  rfl
structure Right (pa : Bool) (n : Nat) (es : List (Int × Int)) (ins outs : List Int) (lab : List (Fin 4)) : Prop where
  n1 : 1 ≤ n
  pw : es.Pairwise fun x y => ltE x y = true
  eok : ∀ e ∈ es, 0 ≤ e.1 ∧ e.1 < e.2 ∧ e.2 < (n : Int)
  esl : es.length ≤ 1000
  vi : VS n ins
  vo : VS n outs
  len : lab.length = n
  lab : ∀ (i : Nat) (w : Fin 4), lab[i]? = some w → wOk pa outs ins i w = true
theorem pw_nodup {es : List (Int × Int)} (h : es.Pairwise fun x y => ltE x y = true) : es.Nodup := h.imp fun {a b} h z => by
  subst z
  rw [ltE_irr] at h
  cases h
theorem Right.simple {pa : Bool} {n : Nat} {es : List (Int × Int)} {ins outs : List Int} {lab : List (Fin 4)} (R : Right pa n es ins outs lab) : Simple n es := ⟨pw_nodup R.pw, R.eok⟩
def bGraph (dr : Nat) : Ss :=
 (.cons (.set 3 (.bin .add (.const (.int 1)) (.call dr (.cons (.var 0) (.cons (.var 1) .nil))))) (.cons (.set 4 (.idx (.lst (.cons (.const (.int 2)) (.cons (.const (.int 3)) (.cons (.const (.int 5)) .nil)))) (.call dr (.cons (.var 0) (.cons (.const (.int 3)) .nil))))) (.cons (.setO 5 (.lst .nil)) (.cons (.for (.name 6) (.rng1 (.var 3))
 (.cons (.for (.name 11) (.rng2 (.bin .add (.var 6) (.const (.int 1))) (.var 3))
 (.cons (.ite (.cmp .eq (.call dr (.cons (.var 0) (.cons (.var 4) .nil))) (.const (.int 0)))
 (.cons (.app 5 (.tup (.cons (.var 6) (.cons (.var 11) .nil)))) .nil)
 .nil)
 .nil))
 .nil))
 (.cons (.set 7 (.bi .tuple (.comp [("vertex", 10)] (.name 10) (.rng1 (.var 3)) (.some (.or (.cmp .eq (.call dr (.cons (.var 0) (.cons (.const (.int 3)) .nil))) (.const (.int 0))) (.and (.cmp .eq (.var 10) (.bin .sub (.var 3) (.const (.int 1)))) (.cmp .gt (.call dr (.cons (.var 0) (.cons (.const (.int 8)) .nil))) (.const (.int 0)))))) (.var 10)))) (.cons (.set 8 (.bi .tuple (.comp [("vertex", 10)] (.name 10) (.rng1 (.var 3)) (.some (.cmp .eq (.call dr (.cons (.var 0) (.cons (.const (.int 4)) .nil))) (.const (.int 0)))) (.var 10)))) (.cons (.setO 9 (.lst .nil)) (.cons (.for (.name 10) (.rng1 (.var 3))
 (.cons (.set 12 (.ite (.var 2) (.idx (.lst (.cons (.const (.str "XY")) (.cons (.const (.str "XY")) (.cons (.const (.str "XZ")) (.cons (.const (.str "YZ")) .nil))))) (.call dr (.cons (.var 0) (.cons (.const (.int 4)) .nil)))) (.const (.str "XY")))) (.cons (.app 9 (.ite (.cmp .inn (.var 10) (.var 7)) (.const (.str "")) (.ite (.cmp .inn (.var 10) (.var 8)) (.const (.str "XY")) (.var 12)))) .nil)))
 (.cons (.ret (.tup (.cons (.var 3) (.cons (.bi .tuple (.bor 5)) (.cons (.var 8) (.cons (.var 7) (.cons (.bi .tuple (.bor 9)) .nil))))))) .nil)))))))))
def fdGraph (s : Stmt) (dr : Nat) : FD := { name := "_law_graph", ps := ["state", "most", "all_planes"], N := ["state", "most", "all_planes", "many", "dense", "edges", "one", "outputs", "inputs", "planes", "vertex", "other", "word"], st := s, body := bGraph dr }
section
variable {gl : List D} {tab : List Ent} {k dr : Nat} {st : Sta}
theorem d_ok (HD : tab[dr]? = some (.pr "_law_draw" 2 drawS)) (hg : Good st) {m : Int} (h1 : 0 < m) (h2 : m < 1073741824) : ∃ (i : Nat) (st' : Sta), run gl tab (k + 1) dr [stTok, .int m] st = .ok (.int (i : Nat)) st' ∧ (i : Int) < m ∧ Good st' := by
  obtain ⟨i, st', e, h, g⟩ := draw_good hg h1 h2
  exact ⟨i, st', (r_pr HD rfl).trans e, h, g⟩
def envG (m : Int) (pa : Bool) (n : Nat) (de : Int) (s5 s6 s7 s8 s9 s10 s11 s12 : Slot) : Eng.Env := [.val stTok, .val (.int m), .val (.bool pa), .val (.int n), .val (.int de), s5, s6, s7, s8, s9, s10, s11, s12]
/-- the edges so far: vertices below x are done, and those of x up to u -/
structure EsIn (n : Nat) (x u : Int) (l : Nat) (es : List (Int × Int)) : Prop where
  pw : es.Pairwise fun x y => ltE x y = true
  ok : ∀ e ∈ es, 0 ≤ e.1 ∧ e.1 < e.2 ∧ e.2 < (n : Int)
  hd : ∀ e ∈ es, e.1 < x ∨ (e.1 = x ∧ e.2 < u)
  len : es.length ≤ l
theorem rngF_at {lo : Int} {m : Nat} {ys zs : List Int} {x : Int} (e : rngF lo m = ys ++ x :: zs) : x = lo + (ys.length : Nat) ∧ ys.length < m := by
  constructor
  · have h1 : (rngF lo m)[ys.length]? = some x := by rw [e, List.getElem?_append_right (Nat.le_refl _)]; simp
    unfold rngF at h1
    rw [List.getElem?_map] at h1
    cases q : (List.range m)[ys.length]? with
    | none => rw [q] at h1; cases h1
    | some i =>
      rw [q] at h1
      obtain ⟨q1, q2⟩ := List.getElem?_eq_some_iff.mp q
      rw [List.getElem_range] at q2
      cases h1
      rw [q2]
  · have := congrArg List.length e
    rw [rngF_len, List.length_append, List.length_cons] at this
    omega
theorem inner (HD : tab[dr]? = some (.pr "_law_draw" 2 drawS)) {n : Nat} {m : Int} {pa : Bool} {es : List (Int × Int)} (hn : n ≤ 24) {de : Int} (hd : 0 < de) (hd2 : de < 10) (hg : Good st) {x : Int} {l : Nat} (hx : 0 ≤ x ∧ x < n) (hl0 : l ≤ 1000) (O : EsIn n x (x + 1) l es) {s11 : Slot} :
    ∃ es' s11' st', Good st' ∧ EsIn n (x + 1) (x + 2) (l + 24) es' ∧
      execs (run gl tab (k + 1)) gl (.cons (.for (.name 11) (.rng2 (.bin .add (.var 6) (.const (.int 1))) (.var 3))
        (.cons (.ite (.cmp .eq (.call dr (.cons (.var 0) (.cons (.var 4) .nil))) (.const (.int 0))) (.cons (.app 5 (.tup (.cons (.var 6) (.cons (.var 11) .nil)))) .nil) .nil) .nil)) .nil)
        (envG m pa n de (.lst (es.map edgeD)) (.val (.int x)) .emp .emp .emp .emp s11 .emp) st = .ok (.nx (envG m pa n de (.lst (es'.map edgeD)) (.val (.int x)) .emp .emp .emp .emp s11' .emp)) st' := by
  obtain ⟨ρ', st', h1, h2⟩ := for_map (tg := .name 11) (φ := .int) (xs := rngF (x + 1) ((n : Int) - (x + 1)).toNat) (st := st)
    (ρ := envG m pa n de (.lst (es.map edgeD)) (.val (.int x)) .emp .emp .emp .emp s11 .emp)
    (body := execs (run gl tab (k + 1)) gl (.cons (.ite (.cmp .eq (.call dr (.cons (.var 0) (.cons (.var 4) .nil))) (.const (.int 0))) (.cons (.app 5 (.tup (.cons (.var 6) (.cons (.var 11) .nil)))) .nil) .nil) .nil))
    (fun ws _ ρ s => Good s ∧ ∃ es' s11', ρ = envG m pa n de (.lst (es'.map edgeD)) (.val (.int x)) .emp .emp .emp .emp s11' .emp ∧ EsIn n x (x + 1 + (ws.length : Nat)) (l + ws.length) es')
    ⟨hg, es, s11, rfl, by simpa using O⟩ (fun ws u us ρ s e2 h => by
      obtain ⟨g, es', s11', rfl, I⟩ := h
      obtain ⟨hu, hul⟩ := rngF_at e2
      have il := I.len
      obtain ⟨i, s', hdr, _, g'⟩ := d_ok (k := k) HD g hd (by omega)
      have t : ev (run gl tab (k + 1)) gl (envG m pa n de (.lst (es'.map edgeD)) (.val (.int x)) .emp .emp .emp .emp (.val (.int u)) .emp) false (.cmp .eq (.call dr (.cons (.var 0) (.cons (.var 4) .nil))) (.const (.int 0))) s = .ok (.bool (decide ((i : Int) = 0))) s' :=
        e_cmp (e_call (ea_cons e_var (ea_cons e_var ea_nil)) hdr) e_con (c_eq _ _)
      refine ⟨envG m pa n de (.lst (es'.map edgeD)) (.val (.int x)) .emp .emp .emp .emp (.val (.int u)) .emp, rfl, ?_⟩
      have le : (ws ++ [u]).length = ws.length + 1 := by simp
      by_cases q : (i : Int) = 0
      · rw [decide_eq_true q] at t
        refine ⟨envG m pa n de (.lst ((es' ++ [(x, u)]).map edgeD)) (.val (.int x)) .emp .emp .emp .emp (.val (.int u)) .emp, s', .inl ?_, g', _, _, rfl, ⟨?_, ?_, ?_, ?_⟩⟩
        · refine x_iteT t (x_app rfl (e_tup (es_cons e_var (es_cons e_var es_nil)) (szl (by show 2 ≤ 1000000; omega))) (by rw [List.length_map]; exact szt (by omega)) x_nil) ?_
          rw [List.map_append]
          exact x_nil
        · refine List.pairwise_append.mpr ⟨I.pw, List.pairwise_singleton .., fun a ha b hb => ?_⟩
          rw [List.mem_singleton] at hb
          subst hb
          show HT.lexLt [a.1, a.2] [x, u] = true
          rcases I.hd a ha with z | z
          · rw [HT.lexLt_cons, if_neg (by omega)]
            exact decide_eq_true z
          · rw [HT.lexLt_cons, if_pos z.1, HT.lexLt_cons, if_neg (by omega)]
            exact decide_eq_true (by omega)
        · intro a ha
          rcases List.mem_append.mp ha with z | z
          · exact I.ok a z
          · rw [List.mem_singleton.mp z]
            simp only
            omega
        · intro a ha
          rw [le]
          rcases List.mem_append.mp ha with z | z
          · have := I.hd a z
            omega
          · rw [List.mem_singleton.mp z]
            exact .inr ⟨rfl, by show u < _; omega⟩
        · have : (es' ++ [(x, u)]).length = es'.length + 1 := by simp
          omega
      · rw [decide_eq_false q] at t
        refine ⟨_, s', .inl (x_skip t x_nil), g', _, _, rfl, ⟨I.pw, I.ok, fun a ha => ?_, by omega⟩⟩
        have := I.hd a ha
        omega)
  obtain ⟨g, es', s11', rfl, I⟩ := h2
  rw [rngF_len] at I
  have il := I.len
  refine ⟨es', s11', st', g, ⟨I.pw, I.ok, fun a ha => ?_, by omega⟩, ?_⟩
  · have := I.hd a ha
    omega
  · refine x_for (evIt_rng2 (e_bin (z := .int (x + 1)) e_var e_con rfl) e_var (smallI_of (by omega) (by omega)) (smallI_of (by omega) (by omega))) h1 x_nil
theorem rng_sub {n : Nat} {l : List Int} (h : List.Sublist l (rng n)) : l.length ≤ n := by
  have := h.length_le
  rwa [rng_len] at this
theorem m_graph {ig : Nat} {s0 : Stmt} {m : Int} {pa : Bool} (HD : tab[dr]? = some (.pr "_law_draw" 2 drawS)) (HG : tab[ig]? = some (.df (fdGraph s0 dr))) (hm : 0 < m) (hm2 : m ≤ 24) (hg : Good st) : ∃ (n : Nat) (es : List (Int × Int)) (ins outs : List Int) (lab : List (Fin 4)) (st' : Sta), Good st' ∧ (n : Int) ≤ m ∧ Right pa n es ins outs lab ∧ run gl tab (k + 2) ig [stTok, .int m, .bool pa] st = .ok (gD n es ins outs lab) st' := by
  obtain ⟨i0, st0, hd0, hi0, g0⟩ := d_ok (k := k) HD hg (m := m) hm (by omega)
  obtain ⟨i1, st1, hd1, hi1, g1⟩ := d_ok (k := k) HD g0 (m := 3) (by decide) (by decide)
  obtain ⟨de, hde, hd2, hidx⟩ : ∃ de : Int, 0 < de ∧ de < 10 ∧ idxD (.list [.int 2, .int 3, .int 5]) (.int (i1 : Nat)) = some (.int de) := by
    rcases (show i1 = 0 ∨ i1 = 1 ∨ i1 = 2 by omega) with h | h | h
    · subst h; exact ⟨2, by decide, by decide, idxL (i := 0) rfl⟩
    · subst h; exact ⟨3, by decide, by decide, idxL (i := 1) rfl⟩
    · subst h; exact ⟨5, by decide, by decide, idxL (i := 2) rfl⟩
  have hn : 1 + i0 ≤ 24 := by omega
  have hnm : ((1 + i0 : Nat) : Int) ≤ m := by omega
  have en : (1 : Int) + (i0 : Nat) = ((1 + i0 : Nat) : Int) := by omega
  have hn1 : 1 ≤ 1 + i0 := by omega
  generalize hN : 1 + i0 = n at hn hnm en hn1
  -- the edges
  obtain ⟨ρ2, st2, h2, g2, es, s6, s11, rfl, O⟩ := for_map (tg := .name 6) (φ := .int) (xs := rng n) (st := st1)
    (ρ := envG m pa n de (.lst (([] : List (Int × Int)).map edgeD)) .emp .emp .emp .emp .emp .emp .emp)
    (body := execs (run gl tab (k + 1)) gl (.cons (.for (.name 11) (.rng2 (.bin .add (.var 6) (.const (.int 1))) (.var 3))
        (.cons (.ite (.cmp .eq (.call dr (.cons (.var 0) (.cons (.var 4) .nil))) (.const (.int 0))) (.cons (.app 5 (.tup (.cons (.var 6) (.cons (.var 11) .nil)))) .nil) .nil) .nil)) .nil))
    (fun ys _ ρ s => Good s ∧ ∃ (es : List (Int × Int)) (s6 s11 : Slot), ρ = envG m pa n de (.lst (es.map edgeD)) s6 .emp .emp .emp .emp s11 .emp ∧ EsIn n ys.length (ys.length + 1) (24 * ys.length) es)
    ⟨g1, [], .emp, .emp, rfl, ⟨List.Pairwise.nil, fun _ h => (by cases h), fun _ h => (by cases h), Nat.zero_le _⟩⟩ (fun ys x zs ρ s e h => by
      obtain ⟨g, es, s6, s11, rfl, O⟩ := h
      obtain ⟨hx, hy⟩ := rng_at e
      rw [← hx] at O
      obtain ⟨es', s11', st', g', O', hX⟩ := inner (k := k) (m := m) (pa := pa) HD hn hde hd2 g (by omega) (by omega) O (s11 := s11)
      refine ⟨_, rfl, _, st', .inl hX, g', es', _, _, rfl, ?_⟩
      have e1 : (((ys ++ [x]).length : Nat) : Int) = x + 1 := by rw [List.length_append, List.length_cons, List.length_nil]; omega
      have e2 : 24 * (ys ++ [x]).length = 24 * ys.length + 24 := by rw [List.length_append, List.length_cons, List.length_nil]; omega
      rw [e1, e2, show x + 1 + 1 = x + 2 by omega]
      exact O')
  rw [rng_len] at O
  have ol := O.len
  -- outputs, inputs
  obtain ⟨outs, st3, sb3, g3, h3⟩ := e_compD (cl := run gl tab (k + 1)) (gl := gl) (ρ := envG m pa n de (.lst (es.map edgeD)) s6 .emp .emp .emp .emp s11 .emp) (own := [("vertex", 10)]) (tg := .name 10) (it := .rng1 (.var 3)) (co := .some (.or (.cmp .eq (.call dr (.cons (.var 0) (.cons (.const (.int 3)) .nil))) (.const (.int 0))) (.and (.cmp .eq (.var 10) (.bin .sub (.var 3) (.const (.int 1)))) (.cmp .gt (.call dr (.cons (.var 0) (.cons (.const (.int 8)) .nil))) (.const (.int 0)))))) (e := .var 10)
    Good PyData.int (evIt_rng1 (st1 := st2) e_var (low (by omega))) g2 (fun x _ s hs => by
      obtain ⟨i, s1, hdr, _, g'⟩ := d_ok (k := k) HD hs (m := 3) (by decide) (by decide)
      obtain ⟨j, s2, hdr2, _, g''⟩ := d_ok (k := k) HD g' (m := 8) (by decide) (by decide)
      refine ⟨envG m pa n de (.lst (es.map edgeD)) s6 .emp .emp .emp (.val (.int x)) s11 .emp, rfl, ?_⟩
      have t : ev (run gl tab (k + 1)) gl (envG m pa n de (.lst (es.map edgeD)) s6 .emp .emp .emp (.val (.int x)) s11 .emp) false (.cmp .eq (.call dr (.cons (.var 0) (.cons (.const (.int 3)) .nil))) (.const (.int 0))) s = .ok (.bool (decide ((i : Int) = 0))) s1 :=
        e_cmp (e_call (ea_cons e_var (ea_cons e_con ea_nil)) hdr) e_con (c_eq _ _)
      have t2 : ev (run gl tab (k + 1)) gl (envG m pa n de (.lst (es.map edgeD)) s6 .emp .emp .emp (.val (.int x)) s11 .emp) false (.cmp .eq (.var 10) (.bin .sub (.var 3) (.const (.int 1)))) s1 = .ok (.bool (decide (x = (n : Int) - 1))) s1 :=
        e_cmp e_var (e_bin e_var e_con rfl) (c_eq _ _)
      have t3 : ev (run gl tab (k + 1)) gl (envG m pa n de (.lst (es.map edgeD)) s6 .emp .emp .emp (.val (.int x)) s11 .emp) false (.cmp .gt (.call dr (.cons (.var 0) (.cons (.const (.int 8)) .nil))) (.const (.int 0))) s1 = .ok (.bool (decide ((0 : Int) < j))) s2 :=
        e_cmp (e_call (ea_cons e_var (ea_cons e_con ea_nil)) hdr2) e_con (c_gt _ _)
      by_cases q : (i : Int) = 0
      · rw [decide_eq_true q] at t
        exact ⟨true, s1, g', i_some (e_orT t), fun _ => e_var⟩
      · rw [decide_eq_false q] at t
        by_cases q2 : x = (n : Int) - 1
        · rw [decide_eq_true q2] at t2
          exact ⟨_, s2, g'', i_some (e_or t (e_and t2 t3)), fun _ => e_var⟩
        · rw [decide_eq_false q2] at t2
          exact ⟨_, s1, g', i_some (e_or t (e_andF t2)), fun _ => e_var⟩) (by rw [rng_len]; exact szl (by omega))
  obtain ⟨ins, st4, sb4, g4, h4⟩ := e_compD (cl := run gl tab (k + 1)) (gl := gl) (ρ := envG m pa n de (.lst (es.map edgeD)) s6 (.val (.tuple (outs.map .int))) .emp .emp .emp s11 .emp) (own := [("vertex", 10)]) (tg := .name 10) (it := .rng1 (.var 3)) (co := .some (.cmp .eq (.call dr (.cons (.var 0) (.cons (.const (.int 4)) .nil))) (.const (.int 0)))) (e := .var 10)
    Good PyData.int (evIt_rng1 (st1 := st3) e_var (low (by omega))) g3 (fun x _ s hs => by
      obtain ⟨i, s1, hdr, _, g'⟩ := d_ok (k := k) HD hs (m := 4) (by decide) (by decide)
      exact ⟨envG m pa n de (.lst (es.map edgeD)) s6 (.val (.tuple (outs.map .int))) .emp .emp (.val (.int x)) s11 .emp, rfl, _, s1, g', i_some (e_cmp (e_call (ea_cons e_var (ea_cons e_con ea_nil)) hdr) e_con (c_eq _ _)), fun _ => e_var⟩) (by rw [rng_len]; exact szl (by omega))
  -- the planes
  obtain ⟨ρ5, st5, h5, g5, lab, s10, s12, rfl, hl5, hw5⟩ := for_map (tg := .name 10) (φ := .int) (xs := rng n) (st := st4)
    (ρ := envG m pa n de (.lst (es.map edgeD)) s6 (.val (.tuple (outs.map .int))) (.val (.tuple (ins.map .int))) (.lst (([] : List (Fin 4)).map wD)) .emp s11 .emp)
    (body := execs (run gl tab (k + 1)) gl (.cons (.set 12 (.ite (.var 2) (.idx (.lst (.cons (.const (.str "XY")) (.cons (.const (.str "XY")) (.cons (.const (.str "XZ")) (.cons (.const (.str "YZ")) .nil))))) (.call dr (.cons (.var 0) (.cons (.const (.int 4)) .nil)))) (.const (.str "XY")))) (.cons (.app 9 (.ite (.cmp .inn (.var 10) (.var 7)) (.const (.str "")) (.ite (.cmp .inn (.var 10) (.var 8)) (.const (.str "XY")) (.var 12)))) .nil)))
    (fun ys _ ρ s => Good s ∧ ∃ (lab : List (Fin 4)) (s10 s12 : Slot), ρ = envG m pa n de (.lst (es.map edgeD)) s6 (.val (.tuple (outs.map .int))) (.val (.tuple (ins.map .int))) (.lst (lab.map wD)) s10 s11 s12 ∧ lab.length = ys.length ∧ ∀ (i : Nat) (w : Fin 4), lab[i]? = some w → wOk pa outs ins i w = true)
    ⟨g4, [], .emp, .emp, rfl, rfl, fun i w h => by cases h⟩ (fun ys x zs ρ s e h => by
      obtain ⟨g, lab, s10, s12, rfl, hl', hw'⟩ := h
      obtain ⟨hx, hy⟩ := rng_at e
      obtain ⟨wd, s1, g', hwd, hw⟩ : ∃ (wd : Fin 4) (s1 : Sta), Good s1 ∧ (decide (wd ∈ ([1, 2, 3] : List (Fin 4))) && (pa || decide (wd = 1))) = true ∧ ev (run gl tab (k + 1)) gl (envG m pa n de (.lst (es.map edgeD)) s6 (.val (.tuple (outs.map .int))) (.val (.tuple (ins.map .int))) (.lst (lab.map wD)) (.val (.int x)) s11 s12) false (.ite (.var 2) (.idx (.lst (.cons (.const (.str "XY")) (.cons (.const (.str "XY")) (.cons (.const (.str "XZ")) (.cons (.const (.str "YZ")) .nil))))) (.call dr (.cons (.var 0) (.cons (.const (.int 4)) .nil)))) (.const (.str "XY"))) s = .ok (wD wd) s1 := by
        cases pa with
        | false => exact ⟨1, s, g, by decide, e_iteF e_var e_con⟩
        | true =>
          obtain ⟨i, s1, hdr, hi, g'⟩ := d_ok (k := k) HD g (m := 4) (by decide) (by decide)
          have key : ∃ wd : Fin 4, wd ∈ ([1, 2, 3] : List (Fin 4)) ∧ idxD (.list [.str "XY", .str "XY", .str "XZ", .str "YZ"]) (.int (i : Nat)) = some (wD wd) := by
            rcases (show i = 0 ∨ i = 1 ∨ i = 2 ∨ i = 3 by omega) with h | h | h | h
            · subst h; exact ⟨1, by decide, idxL (i := 0) rfl⟩
            · subst h; exact ⟨1, by decide, idxL (i := 1) rfl⟩
            · subst h; exact ⟨2, by decide, idxL (i := 2) rfl⟩
            · subst h; exact ⟨3, by decide, idxL (i := 3) rfl⟩
          obtain ⟨wd, k1, k2⟩ := key
          exact ⟨wd, s1, g', by rw [decide_eq_true k1]; rfl, e_iteT e_var (e_idx (e_lst (es_cons e_con (es_cons e_con (es_cons e_con (es_cons e_con es_nil)))) (szl (by show 4 ≤ 1000000; omega))) (e_call (ea_cons e_var (ea_cons e_con ea_nil)) hdr) k2)⟩
      obtain ⟨v, hok, hv⟩ : ∃ v : Fin 4, wOk pa outs ins x v = true ∧ ev (run gl tab (k + 1)) gl (envG m pa n de (.lst (es.map edgeD)) s6 (.val (.tuple (outs.map .int))) (.val (.tuple (ins.map .int))) (.lst (lab.map wD)) (.val (.int x)) s11 (.val (wD wd))) false (.ite (.cmp .inn (.var 10) (.var 7)) (.const (.str "")) (.ite (.cmp .inn (.var 10) (.var 8)) (.const (.str "XY")) (.var 12))) s1 = .ok (wD v) s1 := by
        unfold wOk
        by_cases q : x ∈ outs
        · exact ⟨0, by rw [if_pos q]; rfl, e_iteT (e_cmp e_var e_var ((c_inn x outs).trans (by rw [decide_eq_true q]))) e_con⟩
        · by_cases q2 : x ∈ ins
          · exact ⟨1, by rw [if_neg q, if_pos q2]; rfl, e_iteF (e_cmp e_var e_var ((c_inn x outs).trans (by rw [decide_eq_false q]))) (e_iteT (e_cmp e_var e_var ((c_inn x ins).trans (by rw [decide_eq_true q2]))) e_con)⟩
          · exact ⟨wd, by rw [if_neg q, if_neg q2]; exact hwd, e_iteF (e_cmp e_var e_var ((c_inn x outs).trans (by rw [decide_eq_false q]))) (e_iteF (e_cmp e_var e_var ((c_inn x ins).trans (by rw [decide_eq_false q2]))) e_var)⟩
      refine ⟨_, rfl, envG m pa n de (.lst (es.map edgeD)) s6 (.val (.tuple (outs.map .int))) (.val (.tuple (ins.map .int))) (.lst ((lab ++ [v]).map wD)) (.val (.int x)) s11 (.val (wD wd)), s1, .inl ?_, g', lab ++ [v], _, _, rfl, by simp [hl'], ?_⟩
      · refine x_set hw (Nat.le_of_ble_eq_true rfl) ?_
        refine x_app (ds := lab.map wD) rfl hv (by rw [List.length_map]; exact szt (by omega)) ?_
        rw [List.map_append]
        exact x_nil
      · intro i u hi
        by_cases hil : i < lab.length
        · rw [List.getElem?_append_left hil] at hi
          exact hw' i u hi
        · have hlt : i < (lab ++ [v]).length := (List.getElem?_eq_some_iff.mp hi).1
          rw [List.length_append, List.length_cons, List.length_nil] at hlt
          have : i = ys.length := by omega
          subst this
          rw [List.getElem?_append_right (by omega), hl', Nat.sub_self] at hi
          cases hi
          rw [← hx]
          exact hok)
  rw [rng_len] at hl5
  have v3 := VS.sub sb3
  have v4 := VS.sub sb4
  refine ⟨n, es, ins, outs, lab, st5, g5, hnm, ⟨hn1, O.pw, O.ok, by omega, v4, v3, hl5, hw5⟩, r_ret HG rfl ?_⟩
  · refine x_set (d := .int n) (e_bin e_con (e_call (ea_cons e_var (ea_cons e_var ea_nil)) hd0) (by rw [addB]; show some (PyData.int _) = _; rw [en])) (Nat.le_of_ble_eq_true rfl) ?_
    refine x_set (e_idx (e_lst (es_cons e_con (es_cons e_con (es_cons e_con es_nil))) (szl (by show 3 ≤ 1000000; omega))) (e_call (ea_cons e_var (ea_cons e_con ea_nil)) hd1) hidx) (Nat.le_of_ble_eq_true rfl) ?_
    refine x_setO (ds := ([] : List (Int × Int)).map edgeD) (e_lst es_nil (Nat.zero_le _)) (Nat.le_of_ble_eq_true rfl) ?_
    refine x_for (evIt_rng1 (n := n) e_var (low (by omega))) h2 ?_
    refine x_set (e_bi (h3 true) rfl) (Nat.le_of_ble_eq_true rfl) ?_
    refine x_set (e_bi (h4 true) rfl) (Nat.le_of_ble_eq_true rfl) ?_
    refine x_setO (ds := ([] : List (Fin 4)).map wD) (e_lst es_nil (Nat.zero_le _)) (Nat.le_of_ble_eq_true rfl) ?_
    refine x_for (evIt_rng1 (n := n) e_var (low (by omega))) h5 ?_
    exact x_ret (e_tup (es_cons e_var (es_cons (e_bi e_bor rfl) (es_cons e_var (es_cons e_var (es_cons (e_bi e_bor rfl) es_nil))))) (szl (by show 5 ≤ 1000000; omega)))
end
end Gra

end
section
set_option Elab.async false
set_option linter.all false
set_option maxRecDepth 100000
set_option maxHeartbeats 4000000
set_option autoImplicit false
/-! GraC: what corrections are, by the program and by the law; all sets. -/
namespace Gra
open PySem PySem.Spec PyProof.Rows L2 Eng
def bPlane (io : Nat) : Ss :=
 (.cons (.par 3 4 (.cmp .inn (.var 1) (.var 2)) (.cmp .inn (.var 1) (.call io (.cons (.var 0) (.cons (.var 2) .nil))))) (.cons (.ret (.cmp .eq (.tup (.cons (.var 3) (.cons (.var 4) .nil))) (.dget (.dlit ["XY", "XZ", "YZ"] (.cons (.tup (.cons (.const (.bool false)) (.cons (.const (.bool true)) .nil))) (.cons (.tup (.cons (.const (.bool true)) (.cons (.const (.bool true)) .nil))) (.cons (.tup (.cons (.const (.bool true)) (.cons (.const (.bool false)) .nil))) .nil)))) (.idx (.idx (.var 0) (.const (.int 4))) (.var 1))))) .nil))
def fdPlane (s : Stmt) (io : Nat) : FD := { name := "plane_holds", ps := ["graph", "vertex", "some"], N := ["graph", "vertex", "some", "within", "odd"], st := s, body := bPlane io }
def bCorr (ip io : Nat) : Ss :=
 (.cons (.ite (.or (.quant false (.seq (.var 2)) (.cmp .inn .loc (.idx (.var 0) (.int 2)))) (.not (.call ip (.cons (.var 0) (.cons (.var 1) (.cons (.var 2) .nil))))))
 (.cons (.ret (.const (.bool false))) .nil)
 .nil)
 (.cons (.ret (.quant true (.seq (.bin .add (.var 2) (.call io (.cons (.var 0) (.cons (.var 2) .nil))))) (.or (.cmp .eq .loc (.var 1)) (.cmp .inn .loc (.var 3))))) .nil))
def fdCorr (s : Stmt) (ip io : Nat) : FD := { name := "corrects", ps := ["graph", "vertex", "some", "later"], N := ["graph", "vertex", "some", "later"], st := s, body := bCorr ip io, gen := true }
def bDoes (il : Nat) : Ss :=
 (.cons (.set 4 (.call il (.cons (.var 0) (.cons (.var 2) .nil)))) (.cons (.ite (.cmp .gt (.bi .len (.comp [("one", 6)] (.name 6) (.seq (.var 2)) (.some (.cmp .inn (.var 6) (.idx (.var 0) (.const (.int 2))))) (.var 6))) (.const (.int 0)))
 (.cons (.ret (.const (.bool false))) .nil)
 .nil)
 (.cons (.set 5 (.idx (.idx (.var 0) (.const (.int 4))) (.var 1))) (.cons (.ite (.or (.cmp .ne (.cmp .inn (.var 1) (.var 2)) (.cmp .inn (.var 5) (.lst (.cons (.const (.str "XZ")) (.cons (.const (.str "YZ")) .nil))))) (.cmp .ne (.cmp .inn (.var 1) (.var 4)) (.cmp .inn (.var 5) (.lst (.cons (.const (.str "XY")) (.cons (.const (.str "XZ")) .nil))))))
 (.cons (.ret (.const (.bool false))) .nil)
 .nil)
 (.cons (.ret (.cmp .eq (.bi .len (.comp [("one", 6)] (.name 6) (.seq (.bin .add (.bi .list (.var 2)) (.var 4))) (.some (.and (.cmp .ne (.var 6) (.var 1)) (.cmp .nin (.var 6) (.var 3)))) (.var 6))) (.const (.int 0)))) .nil)))))
def fdDoes (s : Stmt) (il : Nat) : FD := { name := "_law_does", ps := ["graph", "vertex", "some", "later"], N := ["graph", "vertex", "some", "later", "odd", "word", "one"], st := s, body := bDoes il }
def bSets : Ss :=
 (.cons (.set 1 (.lst (.cons (.tup .nil) .nil))) (.cons (.for (.name 2) (.rng1 (.var 0))
 (.cons (.set 3 (.bin .sub (.bin .sub (.var 0) (.const (.int 1))) (.var 2))) (.cons (.set 1 (.bin .add (.var 1) (.comp [("some", 4)] (.name 4) (.seq (.var 1)) .none (.bin .add (.tup (.cons (.var 3) .nil)) (.var 4))))) .nil)))
 (.cons (.ret (.var 1)) .nil)))
def fdSets (s : Stmt) : FD := { name := "_law_sets", ps := ["many"], N := ["many", "found", "vertex", "at", "some"], st := s, body := bSets }

/-- whether a set does as a correction of v with the word w -/
def doesB (es : List (Int × Int)) (ins : List Int) (w : Fin 4) (v : Int) (sm later : List Int) : Bool :=
  !(sm.any fun x => decide (x ∈ ins)) && (decide (decide (v ∈ sm) = decide (w = 2 ∨ w = 3)) && decide (decide (v ∈ oddL es sm) = decide (w = 1 ∨ w = 2))) && (sm ++ oddL es sm).all fun x => decide (x = v) || decide (x ∈ later)
section
variable {gl : List D} {tab : List Ent} {k : Nat} {st : Sta} {n : Nat} {es : List (Int × Int)} {ins outs : List Int} {lab : List (Fin 4)} {w : Fin 4}
theorem gD_lay : (gD n es ins outs lab).canLay0 = true := by
  have h : sh 3 (gD n es ins outs lab) = true := sh_tuple (n := 2) fun d hd => by
    simp only [List.mem_cons, List.not_mem_nil, or_false] at hd
    rcases hd with rfl | rfl | rfl | rfl | rfl
    · rfl
    · exact (Emb.int.pair Emb.int).tup.sh es
    · exact sh_mono (Emb.int.tup.sh ins) (by decide)
    · exact sh_mono (Emb.int.tup.sh outs) (by decide)
    · exact sh_mono (wEmb.tup.sh lab) (by decide)
  exact (Bool.and_eq_true _ _ ▸ h).1
theorem word_at {cl : Calls} {ρ : Eng.Env} {o : Bool} {v : Nat} {i j : Nat} (h0 : ρ[i]? = some (.val (gD n es ins outs lab))) (h1 : ρ[j]? = some (.val (.int (v : Nat)))) (hw : lab[v]? = some w) :
    ev cl gl ρ o (.idx (.idx (.var i) (.const (.int 4))) (.var j)) st = .ok (wD w) st :=
  e_idx (e_idx (e_var h0) e_con (idxT (i := 4) rfl)) (e_var h1) (idxT (by rw [List.getElem?_map, hw]; rfl))
theorem tab_at {cl : Calls} {ρ : Eng.Env} {o : Bool} {a : E} {st1 : Sta} (hw : w ≠ 0) (h : ev cl gl ρ false a st = .ok (wD w) st1) :
    ev cl gl ρ o (.dget (.dlit ["XY", "XZ", "YZ"] (.cons (.tup (.cons (.const (.bool false)) (.cons (.const (.bool true)) .nil))) (.cons (.tup (.cons (.const (.bool true)) (.cons (.const (.bool true)) .nil))) (.cons (.tup (.cons (.const (.bool true)) (.cons (.const (.bool false)) .nil))) .nil)))) a) st = .ok (.tuple [.bool (decide (w = 2 ∨ w = 3)), .bool (decide (w = 1 ∨ w = 2))]) st1 := by
  have e2 : 2 ≤ sizeLine := szl (by decide)
  have hd : dlitD ["XY", "XZ", "YZ"] [.tuple [.bool false, .bool true], .tuple [.bool true, .bool true], .tuple [.bool true, .bool false]] = some (dictD [(.inr "XY", .tuple [.bool false, .bool true]), (.inr "XZ", .tuple [.bool true, .bool true]), (.inr "YZ", .tuple [.bool true, .bool false])]) := by
    unfold dlitD
    rw [if_pos (by decide +kernel)]
    rfl
  have key : dgetD (dictD [(.inr "XY", .tuple [.bool false, .bool true]), (.inr "XZ", .tuple [.bool true, .bool true]), (.inr "YZ", .tuple [.bool true, .bool false])]) (wD w) = some (.tuple [.bool (decide (w = 2 ∨ w = 3)), .bool (decide (w = 1 ∨ w = 2))]) := by
    rcases (show w = 0 ∨ w = 1 ∨ w = 2 ∨ w = 3 by omega) with q | q | q | q
    · exact absurd q hw
    · subst q; rfl
    · subst q; rfl
    · subst q; rfl
  have hs : evs cl gl ρ (.cons (.tup (.cons (.const (.bool false)) (.cons (.const (.bool true)) .nil))) (.cons (.tup (.cons (.const (.bool true)) (.cons (.const (.bool true)) .nil))) (.cons (.tup (.cons (.const (.bool true)) (.cons (.const (.bool false)) .nil))) .nil))) st = .ok [.tuple [.bool false, .bool true], .tuple [.bool true, .bool true], .tuple [.bool true, .bool false]] st :=
    es_cons (e_tup (es_cons e_con (es_cons e_con es_nil)) e2) (es_cons (e_tup (es_cons e_con (es_cons e_con es_nil)) e2) (es_cons (e_tup (es_cons e_con (es_cons e_con es_nil)) e2) es_nil))
  simp only [ev, hs, R.bind_ok, hd, R.of_some, h, key]
theorem m_plane {i io ib is : Nat} {s so sb ss : Stmt} (H : tab[i]? = some (.df (fdPlane s io))) (Ho : tab[io]? = some (.df (fdOdd so is ib))) (Hs : tab[is]? = some (.df (fdSum ss))) (Hb : tab[ib]? = some (.df (fdNb sb))) (S : Simple n es) (he : es.length ≤ 100000) (hn : n ≤ 1000) {v : Nat} (hw : lab[v]? = some w) (h0 : w ≠ 0) (sm : List Int) :
    run gl tab (k + 3) i [gD n es ins outs lab, .int (v : Nat), .tuple (sm.map .int)] st = .ok (.bool (decide (decide ((v : Int) ∈ sm) = decide (w = 2 ∨ w = 3)) && decide (decide ((v : Int) ∈ oddL es sm) = decide (w = 1 ∨ w = 2)))) st := by
  refine r_ret H rfl ?_
  have t : ∀ ρ : Eng.Env, ρ = [.val (gD n es ins outs lab), .val (.int (v : Nat)), .val (.tuple (sm.map .int)), .emp, .emp] → execs (run gl tab (k + 2)) gl (bPlane io) ρ st = .ok (.ret (.bool (decide (decide ((v : Int) ∈ sm) = decide (w = 2 ∨ w = 3)) && decide (decide ((v : Int) ∈ oddL es sm) = decide (w = 1 ∨ w = 2))))) st := fun ρ hρ => by
    subst hρ
    have h1 : ev (run gl tab (k + 2)) gl [.val (gD n es ins outs lab), .val (.int (v : Nat)), .val (.tuple (sm.map .int)), .emp, .emp] false (.cmp .inn (.var 1) (.var 2)) st = .ok (.bool (decide ((v : Int) ∈ sm))) st := e_cmp e_var e_var (c_inn _ _)
    have h2 : ev (run gl tab (k + 2)) gl [.val (gD n es ins outs lab), .val (.int (v : Nat)), .val (.tuple (sm.map .int)), .emp, .emp] false (.cmp .inn (.var 1) (.call io (.cons (.var 0) (.cons (.var 2) .nil)))) st = .ok (.bool (decide ((v : Int) ∈ oddL es sm))) st := e_cmp e_var (e_call (ea_cons e_var (ea_cons e_var ea_nil)) (m_odd (k := k) Ho Hs Hb S he hn sm)) (c_inn _ _)
    refine x_par h1 h2 ⟨Nat.le_of_ble_eq_true rfl, Nat.le_of_ble_eq_true rfl⟩ (x_ret (e_cmp (e_tup (es_cons e_var (es_cons e_var es_nil)) (szl (by show 2 ≤ 1000000; omega))) (tab_at h0 (word_at rfl rfl hw)) ?_))
    refine ((Emb.bool.pair Emb.bool).eqD (decide ((v : Int) ∈ sm), decide ((v : Int) ∈ oddL es sm)) (decide (w = 2 ∨ w = 3), decide (w = 1 ∨ w = 2))).trans (congrArg some ?_)
    rw [← Bool.decide_and]
    exact decide_eq_decide.mpr (by rw [Prod.mk.injEq])
  exact t _ rfl
theorem m_corr {i ip io ib is : Nat} {s sp so sb ss : Stmt} (H : tab[i]? = some (.df (fdCorr s ip io))) (Hp : tab[ip]? = some (.df (fdPlane sp io))) (Ho : tab[io]? = some (.df (fdOdd so is ib))) (Hs : tab[is]? = some (.df (fdSum ss))) (Hb : tab[ib]? = some (.df (fdNb sb))) (S : Simple n es) (he : es.length ≤ 100000) (hn : n ≤ 1000) {v : Nat} (hw : lab[v]? = some w) (h0 : w ≠ 0) {sm later : List Int} (hl : sm.length ≤ 1000) {ld : D} (hld : IsSeq ld later) :
    run gl tab (k + 4) i [gD n es ins outs lab, .int (v : Nat), .tuple (sm.map .int), ld] st = .ok (.bool (doesB es ins w v sm later)) st := by
  refine r_ret H rfl ?_
  have t : ∀ ρ : Eng.Env, ρ = [.val (gD n es ins outs lab), .val (.int (v : Nat)), .val (.tuple (sm.map .int)), .val ld] → execs (run gl tab (k + 3)) gl (bCorr ip io) ρ st = .ok (.ret (.bool (doesB es ins w v sm later))) st := fun ρ hρ => by
    subst hρ
    have h1 : ev (run gl tab (k + 3)) gl [.val (gD n es ins outs lab), .val (.int (v : Nat)), .val (.tuple (sm.map .int)), .val ld] false (.quant false (.seq (.var 2)) (.cmp .inn .loc (.idx (.var 0) (.int 2)))) st = .ok (.bool (sm.any fun x => decide (x ∈ ins))) st :=
      e_quant (φ := .int) (xs := sm) (fun x => decide (x ∈ ins)) (al := false) (it_seqT e_var) fun x _ => ⟨rfl, q_cmp rfl (q_idxT (q_var rfl gD_lay) (i := 2) rfl rfl (szl (by show 5 ≤ 1000000; omega))) (q_innT _ _)⟩
    have h2 := m_plane (gl := gl) (k := k) (st := st) (ins := ins) (outs := outs) Hp Ho Hs Hb S he hn hw h0 sm
    have h3 : ev (run gl tab (k + 3)) gl [.val (gD n es ins outs lab), .val (.int (v : Nat)), .val (.tuple (sm.map .int)), .val ld] false (.not (.call ip (.cons (.var 0) (.cons (.var 1) (.cons (.var 2) .nil))))) st = .ok (.bool (!(decide (decide ((v : Int) ∈ sm) = decide (w = 2 ∨ w = 3)) && decide (decide ((v : Int) ∈ oddL es sm) = decide (w = 1 ∨ w = 2))))) st :=
      e_not (e_call (ea_cons e_var (ea_cons e_var (ea_cons e_var ea_nil))) h2)
    have hol : (oddL es sm).length ≤ n := ss_len (ss_oddL S sm) fun z hz => oddL_rng S hz
    have h4 : ev (run gl tab (k + 3)) gl [.val (gD n es ins outs lab), .val (.int (v : Nat)), .val (.tuple (sm.map .int)), .val ld] true (.bin .add (.var 2) (.call io (.cons (.var 0) (.cons (.var 2) .nil)))) st = .ok (.tuple ((sm ++ oddL es sm).map .int)) st :=
      e_bin e_var (e_call (ea_cons e_var (ea_cons e_var ea_nil)) (m_odd (k := k + 1) Ho Hs Hb S he hn sm)) (by rw [addB, addD_tup, List.map_append]; rw [List.length_map, List.length_map]; exact szl (by omega))
    have h5 : ev (run gl tab (k + 3)) gl [.val (gD n es ins outs lab), .val (.int (v : Nat)), .val (.tuple (sm.map .int)), .val ld] false (.quant true (.seq (.bin .add (.var 2) (.call io (.cons (.var 0) (.cons (.var 2) .nil))))) (.or (.cmp .eq .loc (.var 1)) (.cmp .inn .loc (.var 3)))) st = .ok (.bool ((sm ++ oddL es sm).all fun x => decide (x = v) || decide (x ∈ later))) st :=
      e_quant (φ := .int) (xs := sm ++ oddL es sm) (fun x => decide (x = v) || decide (x ∈ later)) (al := true) (it_seqT h4) fun x _ => ⟨rfl, q_or (q_cmp rfl (q_var rfl rfl) (q_eqI _ _)) (q_cmp rfl (q_var rfl hld.lay) (hld.qin _))⟩
    unfold doesB
    have h6 := e_or2 (o := false) h1 h3
    generalize (sm.any fun x => decide (x ∈ ins)) = b1 at *
    generalize (decide (decide ((v : Int) ∈ sm) = decide (w = 2 ∨ w = 3)) && decide (decide ((v : Int) ∈ oddL es sm) = decide (w = 1 ∨ w = 2))) = b2 at *
    cases b1 with
    | true => exact x_iteR h6 (x_ret e_con)
    | false =>
      cases b2 with
      | false => exact x_iteR h6 (x_ret e_con)
      | true => exact x_skip h6 (x_ret h5)
  exact t _ rfl
end
end Gra

end
section
set_option Elab.async false
set_option linter.all false
set_option maxRecDepth 100000
set_option maxHeartbeats 4000000
set_option autoImplicit false
/-! GraD: the law's reading of corrections; all sets; a range downward. -/
namespace Gra
open PySem PySem.Spec PyProof.Rows L2 Eng
theorem flt_zero {α : Type} {l : List α} {p : α → Bool} : decide (0 < ((l.filter p).length : Int)) = l.any p := by
  rw [Bool.eq_iff_iff, decide_eq_true_eq, List.any_eq_true]
  constructor
  · intro h
    obtain ⟨x, hx⟩ := List.exists_mem_of_length_pos (show 0 < (l.filter p).length by omega)
    obtain ⟨h1, h2⟩ := List.mem_filter.mp hx
    exact ⟨x, h1, h2⟩
  · rintro ⟨x, h1, h2⟩
    have := List.length_pos_of_mem (List.mem_filter.mpr ⟨h1, h2⟩)
    omega
theorem flt_none {α : Type} {l : List α} {p : α → Bool} : decide (((l.filter p).length : Int) = 0) = l.all fun x => !p x := by
  have h := flt_zero (l := l) (p := p)
  rw [← Bool.not_not (l.all fun x => !p x), List.not_all_eq_any_not]
  simp only [Bool.not_not]
  rw [← h, ← decide_not]
  exact decide_eq_decide.mpr (by omega)
section
variable {gl : List D} {tab : List Ent} {k : Nat} {st : Sta} {n : Nat} {es : List (Int × Int)} {ins outs : List Int} {lab : List (Fin 4)} {w : Fin 4}
theorem c_wordL (w : Fin 4) (ws : List (Fin 4)) : cmpD .inn (wD w) (.list (ws.map wD)) = some (decide (w ∈ ws)) := wEmb.inL w ws
theorem m_does {i il ir : Nat} {s sl sr : Stmt} (H : tab[i]? = some (.df (fdDoes s il))) (Hl : tab[il]? = some (.df (fdLOdd sl ir))) (Hr : tab[ir]? = some (.df (fdNear sr))) (S : Simple n es) (he : es.length ≤ 100000) (hn : n ≤ 1000) {v : Nat} (hw : lab[v]? = some w) {sm later : List Int} (hs : SS sm) (hl : sm.length ≤ 1000) {ld : D} (hld : IsSeq ld later) :
    run gl tab (k + 3) i [gD n es ins outs lab, .int (v : Nat), .tuple (sm.map .int), ld] st = .ok (.bool (doesB es ins w v sm later)) st := by
  refine r_ret H rfl ?_
  have t : ∀ s4 s5 s6, ∀ ρ : Eng.Env, ρ = [.val (gD n es ins outs lab), .val (.int (v : Nat)), .val (.tuple (sm.map .int)), .val ld, s4, s5, s6] → execs (run gl tab (k + 2)) gl (bDoes il) ρ st = .ok (.ret (.bool (doesB es ins w v sm later))) st := fun s4 s5 s6 ρ hρ => by
    subst hρ
    have hol : (oddL es sm).length ≤ n := ss_len (ss_oddL S sm) fun z hz => oddL_rng S hz
    have eo := oddL_eq S hs
    refine x_set (e_call (ea_cons e_var (ea_cons e_var ea_nil)) (m_lawodd (k := k) Hl Hr S he hn (.inl rfl))) (Nat.le_of_ble_eq_true rfl) ?_
    rw [← eo]
    have h1 : ev (run gl tab (k + 2)) gl [.val (gD n es ins outs lab), .val (.int (v : Nat)), .val (.tuple (sm.map .int)), .val ld, .val (.list ((oddL es sm).map .int)), s5, s6] false (.cmp .gt (.bi .len (.comp [("one", 6)] (.name 6) (.seq (.var 2)) (.some (.cmp .inn (.var 6) (.idx (.var 0) (.const (.int 2))))) (.var 6))) (.const (.int 0))) st = .ok (.bool (decide (0 < ((sm.filter fun x => decide (x ∈ ins)).length : Int)))) st :=
      e_cmp (e_bi (z := .int (sm.filter fun x => decide (x ∈ ins)).length) (e_comp (φ := .int) (xs := sm) (fun x => decide (x ∈ ins)) .int (it_seqT e_var) (fun u _ => ⟨[.val (gD n es ins outs lab), .val (.int (v : Nat)), .val (.tuple (sm.map .int)), .val ld, .val (.list ((oddL es sm).map .int)), s5, .val (.int u)], rfl, i_some (e_cmp e_var (e_idx e_var e_con (idxT (i := 2) rfl)) (c_inn _ _)), fun _ => e_var⟩) (szl (by omega))) (by simp only [biD, List.length_map])) e_con (c_gt _ _)
    rw [flt_zero] at h1
    unfold doesB
    generalize hb1 : (sm.any fun x => decide (x ∈ ins)) = b1 at h1 ⊢
    cases b1 with
    | true => exact x_iteR h1 (x_ret e_con)
    | false =>
      refine x_skip h1 (x_set (word_at rfl rfl hw) (Nat.le_of_ble_eq_true rfl) ?_)
      have e2 : 2 ≤ sizeLine := szl (by decide)
      have h2 : ev (run gl tab (k + 2)) gl [.val (gD n es ins outs lab), .val (.int (v : Nat)), .val (.tuple (sm.map .int)), .val ld, .val (.list ((oddL es sm).map .int)), .val (wD w), s6] false (.or (.cmp .ne (.cmp .inn (.var 1) (.var 2)) (.cmp .inn (.var 5) (.lst (.cons (.const (.str "XZ")) (.cons (.const (.str "YZ")) .nil))))) (.cmp .ne (.cmp .inn (.var 1) (.var 4)) (.cmp .inn (.var 5) (.lst (.cons (.const (.str "XY")) (.cons (.const (.str "XZ")) .nil)))))) st = .ok (.bool (!decide (decide ((v : Int) ∈ sm) = decide (w ∈ ([2, 3] : List (Fin 4)))) || !decide (decide ((v : Int) ∈ oddL es sm) = decide (w ∈ ([1, 2] : List (Fin 4)))))) st :=
        e_or2 (e_cmp (e_cmp e_var e_var (c_inn _ _)) (e_cmp e_var (e_lst (es_cons e_con (es_cons e_con es_nil)) e2) (c_wordL w [2, 3])) (c_neB _ _)) (e_cmp (e_cmp e_var e_var (c_innL _ _)) (e_cmp e_var (e_lst (es_cons e_con (es_cons e_con es_nil)) e2) (c_wordL w [1, 2])) (c_neB _ _))
      have w1 : decide (w ∈ ([2, 3] : List (Fin 4))) = decide (w = 2 ∨ w = 3) := decide_eq_decide.mpr (by simp)
      have w2 : decide (w ∈ ([1, 2] : List (Fin 4))) = decide (w = 1 ∨ w = 2) := decide_eq_decide.mpr (by simp)
      rw [w1, w2] at h2
      have h3 : ev (run gl tab (k + 2)) gl [.val (gD n es ins outs lab), .val (.int (v : Nat)), .val (.tuple (sm.map .int)), .val ld, .val (.list ((oddL es sm).map .int)), .val (wD w), s6] false (.cmp .eq (.bi .len (.comp [("one", 6)] (.name 6) (.seq (.bin .add (.bi .list (.var 2)) (.var 4))) (.some (.and (.cmp .ne (.var 6) (.var 1)) (.cmp .nin (.var 6) (.var 3)))) (.var 6))) (.const (.int 0))) st = .ok (.bool (decide ((((sm ++ oddL es sm).filter fun x : Int => !decide (x = (v : Int)) && !decide (x ∈ later)).length : Int) = 0))) st := by
        have h4 : ev (run gl tab (k + 2)) gl [.val (gD n es ins outs lab), .val (.int (v : Nat)), .val (.tuple (sm.map .int)), .val ld, .val (.list ((oddL es sm).map .int)), .val (wD w), s6] true (.bin .add (.bi .list (.var 2)) (.var 4)) st = .ok (.list ((sm ++ oddL es sm).map .int)) st :=
          e_bin (e_bi e_var rfl) e_var (by rw [addB, addD_lst, List.map_append]; rw [List.length_map, List.length_map]; exact szl (by omega))
        refine e_cmp (e_bi (z := .int ((sm ++ oddL es sm).filter fun x : Int => !decide (x = (v : Int)) && !decide (x ∈ later)).length) (e_comp (φ := .int) (xs := sm ++ oddL es sm) (fun x : Int => !decide (x = (v : Int)) && !decide (x ∈ later)) .int (it_seqL h4) (fun u _ => ⟨[.val (gD n es ins outs lab), .val (.int (v : Nat)), .val (.tuple (sm.map .int)), .val ld, .val (.list ((oddL es sm).map .int)), .val (wD w), .val (.int u)], rfl, i_some (e_and2 (e_cmp e_var e_var (c_ne _ _)) (e_cmp e_var e_var (hld.nin _))), fun _ => e_var⟩) (szl (by rw [List.length_append]; omega))) (by simp only [biD, List.length_map])) e_con (c_eq _ _)
      rw [flt_none] at h3
      have h5 : ((sm ++ oddL es sm).all fun x : Int => !(!decide (x = (v : Int)) && !decide (x ∈ later))) = (sm ++ oddL es sm).all fun x : Int => decide (x = (v : Int)) || decide (x ∈ later) := by
        congr 1
        funext x
        simp only [Bool.not_and, Bool.not_not]
      rw [h5] at h3
      generalize decide (decide ((v : Int) ∈ sm) = decide (w = 2 ∨ w = 3)) = b2 at h2 ⊢
      generalize decide (decide ((v : Int) ∈ oddL es sm) = decide (w = 1 ∨ w = 2)) = b3 at h2 ⊢
      cases b2 with
      | false => exact x_iteR h2 (x_ret e_con)
      | true =>
        cases b3 with
        | false => exact x_iteR h2 (x_ret e_con)
        | true => exact x_skip h2 (x_ret h3)
  exact t _ _ _ _ rfl
theorem m_sets {i : Nat} {s0 : Stmt} (H : tab[i]? = some (.df (fdSets s0))) (hn : n ≤ 10) : run gl tab (k + 1) i [.int n] st = .ok (.list ((setsS n n).map tD)) st := by
  refine r_ret H rfl ?_
  refine x_set (d := .list [tD []]) (e_lst (es_cons (e_tup es_nil (Nat.zero_le _)) es_nil) (szl (by show 1 ≤ 1000000; omega))) (Nat.le_of_ble_eq_true rfl) ?_
  refine xs_for (φ := .int) (xs := rng n) (fun ys _ ρ s => s = st ∧ ∃ s2 s3, ρ = [.val (.int n), .val (.list ((setsS n ys.length).map tD)), s2, s3, .emp]) (evIt_rng1 e_var (low (by omega))) ⟨rfl, _, _, rfl⟩ (fun ys x zs ρ s e h => ?_) (fun ρ' st' h => ?_)
  · obtain ⟨rfl, s2, s3, rfl⟩ := h
    obtain ⟨rfl, hv⟩ := rng_at e
    refine ⟨[.val (.int n), .val (.list ((setsS n ys.length).map tD)), .val (.int (ys.length : Nat)), s3, .emp], rfl, [.val (.int n), .val (.list ((setsS n (ys.length + 1)).map tD)), .val (.int (ys.length : Nat)), .val (.int ((n : Int) - 1 - (ys.length : Nat))), .emp], s, .inl ?_, rfl, _, _, by rw [List.length_append]; rfl⟩
    have hlen := setsS_len n ys.length
    have hp : 2 ^ ys.length ≤ 2 ^ 10 := Nat.pow_le_pow_right (by decide) (by omega)
    refine x_set (e_bin (e_bin e_var e_con subD) e_var subD) (Nat.le_of_ble_eq_true rfl) (x_set (e_bin e_var (e_comp (φ := tD) (xs := setsS n ys.length) (fun _ => true) (fun s => tD (((n : Int) - 1 - (ys.length : Nat)) :: s)) (it_seqL e_var) (fun s' hs' => ⟨[.val (.int n), .val (.list ((setsS n ys.length).map tD)), .val (.int (ys.length : Nat)), .val (.int ((n : Int) - 1 - (ys.length : Nat))), .val (tD s')], rfl, i_none, fun _ => ?_⟩) (szl (by omega)))
      (z := .list ((setsS n (ys.length + 1)).map tD)) ?_) (Nat.le_of_ble_eq_true rfl) x_nil)
    · refine e_bin (e_tup (es_cons e_var es_nil) (szl (by show 1 ≤ 1000000; omega))) e_var ?_
      have hv' : s'.length ≤ n := by
        have h1 := setsS_in n ys.length s' hs'
        exact VS.len ⟨h1.1, fun x hx => by have := h1.2 x hx; rw [mem_rng]; omega⟩
      rw [addB]
      show addD (.tuple _) (.tuple _) = _
      rw [addD_tup _ _ (szl (by rw [List.length_map]; show 1 + s'.length ≤ 1000000; omega))]
      rfl
    · rw [addB, addD_lst _ _ (szl (by rw [List.length_map, List.length_map, List.filter_eq_self.mpr (fun _ _ => rfl)]; omega)), List.filter_eq_self.mpr (fun _ _ => rfl)]
      show _ = some (PyData.list ((setsS n ys.length ++ (setsS n ys.length).map fun s => ((n : Int) - 1 - ys.length) :: s).map tD))
      rw [List.map_append, List.map_map]
      rfl
  · obtain ⟨rfl, s2, s3, rfl⟩ := h
    rw [rng_len]
    exact x_ret e_var
/-- n - 1, .., 0 -/
theorem evIt_down {cl : Calls} {ρ : Eng.Env} {o : Bool} {a : E} {st1 : Sta} (h : ev cl gl ρ false a st = .ok (.int ((n : Int) - 1)) st1) (hn : n ≤ 1000000) : evIt cl gl ρ o (.rng3 a (.neg (.const (.int 1))) (.neg (.const (.int 1)))) st = .ok ((rng n).map fun i => .int ((n : Int) - 1 - i)) st1 := by
  simp only [evIt, h, R.bind_ok, e_neg e_con]
  rw [if_pos]
  · congr 1
    have e : ((n : Int) - 1 - -1).toNat = n := by omega
    rw [e]
    unfold rangeD rng
    rw [List.map_map]
    apply List.map_congr_left
    intro i _
    show PyData.int _ = PyData.int _
    congr 1
    show _ = (n : Int) - 1 - (i : Nat)
    omega
  · rw [smallI_of (by omega) (by omega), smallI_of (by omega) (by omega)]
    rfl
end
end Gra

end
section
set_option Elab.async false
set_option linter.all false
set_option maxRecDepth 100000
set_option maxHeartbeats 4000000
set_option autoImplicit false
/-! GraF: first sets, sets of places, and the alternative for equations of two. -/
namespace Gra
open PySem PySem.Spec PyProof.Rows L2 Eng
/-! ### first sets -/
theorem before_irr (a : List Int) : ¬ Before a a := fun ⟨_, _, h1, h2⟩ => h1 h2
theorem before_asym {a b : List Int} (h : Before a b) : ¬ Before b a := by
  obtain ⟨i, h1, h2, h3⟩ := h
  rintro ⟨j, g1, g2, g3⟩
  rcases Int.lt_trichotomy i j with z | z | z
  · exact h2 ((g1 i z).mp h3)
  · subst z; exact h2 g3
  · exact g2 ((h1 j z).mp g3)
def IsFirst (P : List Int → Prop) (a : List Int) : Prop := P a ∧ ∀ b, P b → b = a ∨ Before a b
theorem first_unique {P : List Int → Prop} {a b : List Int} (ha : IsFirst P a) (hb : IsFirst P b) : a = b := by
  rcases ha.2 b hb.1 with h | h
  · exact h.symm
  · rcases hb.2 a ha.1 with g | g
    · exact g
    · exact (before_asym h g).elim
theorem first_of_find {n : Nat} {p : List Int → Bool} {a : List Int} (h : (setsS n n).find? p = some a) : IsFirst (fun s => VS n s ∧ p s = true) a := by
  obtain ⟨hp, as, bs, e, hno⟩ := List.find?_eq_some_iff_append.mp h
  refine ⟨⟨setsS_vs (by rw [e]; simp), hp⟩, fun b ⟨vb, pb⟩ => ?_⟩
  have mb := vs_setsS vb
  have hord := setsS_ord n n
  rw [e] at mb hord
  rcases List.mem_append.mp mb with z | z
  · have := hno _ z
    rw [pb] at this
    cases this
  · rcases List.mem_cons.mp z with z | z
    · exact .inl z
    · exact .inr ((List.pairwise_cons.mp (List.pairwise_append.mp hord).2.1).1 _ z)
theorem find_of_first {n : Nat} {p : List Int → Bool} {a : List Int} (h : IsFirst (fun s => VS n s ∧ p s = true) a) : (setsS n n).find? p = some a := by
  cases q : (setsS n n).find? p with
  | none =>
    have := List.find?_eq_none.mp q a (vs_setsS h.1.1)
    exact absurd h.1.2 this
  | some b => rw [first_unique (first_of_find q) h]
theorem find_none {n : Nat} {p : List Int → Bool} : (setsS n n).find? p = none ↔ ∀ s, VS n s → p s = false := by
  rw [List.find?_eq_none]
  exact ⟨fun h s v => by simpa using h s (vs_setsS v), fun h s m => by rw [h s (setsS_vs m)]; simp⟩
/-! ### sets of places -/
def pick (cols : List Int) (s : List Int) : List Int := s.map fun i => cols.getD i.toNat 0
theorem getD_of {cols : List Int} {i : Nat} {x : Int} (h : cols[i]? = some x) : cols.getD i 0 = x := by rw [List.getD_eq_getElem?_getD, h]; rfl
theorem ss_at {cols : List Int} (h : SS cols) {i j : Nat} {x y : Int} (hi : cols[i]? = some x) (hj : cols[j]? = some y) : i < j ↔ x < y := by
  obtain ⟨a1, a2⟩ := List.getElem?_eq_some_iff.mp hi
  obtain ⟨b1, b2⟩ := List.getElem?_eq_some_iff.mp hj
  have key := List.pairwise_iff_getElem.mp h
  constructor
  · intro l
    have := key i j a1 b1 l
    rw [a2, b2] at this
    exact this
  · intro l
    rcases Nat.lt_trichotomy i j with z | z | z
    · exact z
    · subst z
      rw [a2] at b2
      omega
    · have := key j i b1 a1 z
      rw [a2, b2] at this
      omega
theorem at_of {m : Nat} {cols : List Int} (hm : cols.length = m) {i : Int} (h : i ∈ rng m) : ∃ (k : Nat) (x : Int), i = k ∧ cols[k]? = some x := by
  have := mem_rng.mp h
  exact ⟨i.toNat, cols[i.toNat]'(by omega), by omega, List.getElem?_eq_getElem (by omega)⟩
theorem mem_pick {m : Nat} {cols s : List Int} (hm : cols.length = m) (hs : VS m s) {x : Int} : x ∈ pick cols s ↔ ∃ k : Nat, (k : Int) ∈ s ∧ cols[k]? = some x := by
  unfold pick
  rw [List.mem_map]
  constructor
  · rintro ⟨i, hi, rfl⟩
    obtain ⟨k, x, rfl, hx⟩ := at_of hm (hs.rg i hi)
    exact ⟨k, hi, by rw [Int.toNat_natCast, getD_of hx]; exact hx⟩
  · rintro ⟨k, hk, hx⟩
    exact ⟨k, hk, by rw [Int.toNat_natCast, getD_of hx]⟩
theorem ss_pick {m : Nat} {cols : List Int} (hm : cols.length = m) (hc : SS cols) {s : List Int} (hs : VS m s) : SS (pick cols s) := by
  unfold pick
  refine List.pairwise_map.mpr (hs.ss.imp_of_mem fun {a b} ha hb hab => ?_)
  obtain ⟨k, x, rfl, hx⟩ := at_of hm (hs.rg a ha)
  obtain ⟨l, y, rfl, hy⟩ := at_of hm (hs.rg b hb)
  rw [Int.toNat_natCast, Int.toNat_natCast, getD_of hx, getD_of hy]
  exact (ss_at hc hx hy).mp (by omega)
theorem pick_in {m : Nat} {cols : List Int} (hm : cols.length = m) {s : List Int} (hs : VS m s) {x : Int} (h : x ∈ pick cols s) : x ∈ cols := by
  obtain ⟨k, _, hx⟩ := (mem_pick hm hs).mp h
  exact List.mem_of_getElem? hx
theorem pick_before {m : Nat} {cols : List Int} (hm : cols.length = m) (hc : SS cols) {a b : List Int} (ha : VS m a) (hb : VS m b) (h : Before a b) : ∃ i ∈ cols, (∀ j < i, j ∈ pick cols a ↔ j ∈ pick cols b) ∧ i ∉ pick cols a ∧ i ∈ pick cols b := by
  obtain ⟨i, h1, h2, h3⟩ := h
  obtain ⟨k, x, rfl, hx⟩ := at_of hm (hb.rg i h3)
  have uniq : ∀ {l : Nat}, cols[l]? = some x → l = k := fun {l} hl => by
    have e1 := ss_at hc hl hx
    have e2 := ss_at hc hx hl
    omega
  refine ⟨x, List.mem_of_getElem? hx, fun j hj => ?_, fun z => ?_, (mem_pick hm hb).mpr ⟨k, h3, hx⟩⟩
  · rw [mem_pick hm ha, mem_pick hm hb]
    have key : ∀ l : Nat, cols[l]? = some j → ((l : Int) ∈ a ↔ (l : Int) ∈ b) := fun l hl => h1 l (by have := (ss_at hc hl hx).mpr hj; omega)
    exact ⟨fun ⟨l, g1, g2⟩ => ⟨l, (key l g2).mp g1, g2⟩, fun ⟨l, g1, g2⟩ => ⟨l, (key l g2).mpr g1, g2⟩⟩
  · obtain ⟨l, g1, g2⟩ := (mem_pick hm ha).mp z
    rw [uniq g2] at g1
    exact h2 g1
theorem pick_all {m : Nat} {cols : List Int} (hm : cols.length = m) (hc : SS cols) {X : List Int} (hX : SS X) (hi : ∀ x ∈ X, x ∈ cols) : ∃ s, VS m s ∧ pick cols s = X := by
  have vs : VS m ((rng m).filter fun i => decide (cols.getD i.toNat 0 ∈ X)) := VS.sub List.filter_sublist
  refine ⟨_, vs, ss_ext (ss_pick hm hc vs) hX fun x => ?_⟩
  rw [mem_pick hm vs]
  constructor
  · rintro ⟨k, hk, hx⟩
    have := of_decide_eq_true (List.mem_filter.mp hk).2
    rw [Int.toNat_natCast, getD_of hx] at this
    exact this
  · intro h
    obtain ⟨k, hk⟩ := List.getElem?_of_mem (hi x h)
    have hk2 := (List.getElem?_eq_some_iff.mp hk).1
    exact ⟨k, List.mem_filter.mpr ⟨mem_rng.mpr (by omega), decide_eq_true (by rw [Int.toNat_natCast, getD_of hk]; exact h)⟩, hk⟩
/-- the places of what stands in q -/
def places (cols : List Int) (q : Int → Bool) : List Int := (rng cols.length).filter fun i => q (cols.getD i.toNat 0)
theorem vs_places {cols : List Int} {q : Int → Bool} : VS cols.length (places cols q) := VS.sub List.filter_sublist
theorem count_places {cols : List Int} {q : Int → Bool} {s : List Int} (hs : VS cols.length s) : ((places cols q).filter fun x => decide (x ∈ s)).length = ((pick cols s).filter q).length := by
  have e : (places cols q).filter (fun x => decide (x ∈ s)) = s.filter fun i => q (cols.getD i.toNat 0) := ss_ext (vs_places.ss.filter _) (hs.ss.filter _) fun x => by
    unfold places
    rw [List.mem_filter, List.mem_filter, List.mem_filter, decide_eq_true_eq]
    exact ⟨fun z => ⟨z.2, z.1.2⟩, fun z => ⟨⟨hs.rg x z.1, z.2⟩, z.1⟩⟩
  rw [e]
  unfold pick
  rw [List.filter_map, List.length_map]
  rfl
theorem sum_filter {a b : List Int} (ha : SS a) (hb : SS b) (q : Int → Bool) : ((sumL a b).filter q).length % 2 = ((a.filter q).length + (b.filter q).length) % 2 := by
  have h1 := filter_split (fun y => decide (y ∈ b)) q a
  have h2 := filter_split (fun y => decide (y ∈ a)) q b
  have h3 : a.filter (fun y => decide (y ∈ b)) = b.filter (fun y => decide (y ∈ a)) := ss_ext (ha.filter _) (hb.filter _) fun y => by
    rw [List.mem_filter, List.mem_filter, decide_eq_true_eq, decide_eq_true_eq]
    exact And.comm
  have h4 : ((sumL a b).filter q).length = ((a.filter fun y => !decide (y ∈ b)).filter q).length + ((b.filter fun y => !decide (y ∈ a)).filter q).length := by
    unfold sumL
    rw [((isort_perm _).filter _).length_eq, List.filter_append, List.length_append]
  rw [h3] at h1
  rw [h4]
  omega
/-! ### the alternative -/
/-- what rows come to when they are added up -/
inductive Comb (rows : List (Nat × Nat)) : Nat → Nat → Prop
  | zero : Comb rows 0 0
  | step {r b : Nat} {p : Nat × Nat} : Comb rows r b → p ∈ rows → Comb rows (r ^^^ p.1) (b ^^^ p.2)
theorem Comb.add {rows : List (Nat × Nat)} {r b r' b' : Nat} (h : Comb rows r b) (h' : Comb rows r' b') : Comb rows (r ^^^ r') (b ^^^ b') := by
  induction h' with
  | zero => rw [Nat.xor_zero, Nat.xor_zero]; exact h
  | step _ hp ih => rw [← Nat.xor_assoc, ← Nat.xor_assoc]; exact .step ih hp
theorem Comb.trans {rows rows' : List (Nat × Nat)} (h : ∀ p ∈ rows', Comb rows p.1 p.2) {r b : Nat} (c : Comb rows' r b) : Comb rows r b := by
  induction c with
  | zero => exact .zero
  | step _ hp ih => exact ih.add (h _ hp)
theorem Comb.one {rows : List (Nat × Nat)} {p : Nat × Nat} (h : p ∈ rows) : Comb rows p.1 p.2 := by
  have := Comb.step (.zero : Comb rows 0 0) h
  rwa [Nat.zero_xor, Nat.zero_xor] at this
theorem top_bit {r n : Nat} (h : r < 2 ^ (n + 1)) (hb : r.testBit n = false) : r < 2 ^ n := by
  refine Nat.lt_pow_two_of_testBit r fun i hi => ?_
  rcases Nat.lt_or_ge n i with z | z
  · exact Nat.testBit_lt_two_pow (Nat.lt_of_lt_of_le h (Nat.pow_le_pow_right (by decide) z))
  · rw [show i = n by omega]; exact hb
theorem alt : ∀ (n : Nat) (rows : List (Nat × Nat)), n ≤ 25 → (∀ p ∈ rows, p.1 < 2 ^ n ∧ p.2 < 2) → (∃ x, x < 2 ^ n ∧ Sol rows x) ∨ Comb rows 0 1
  | 0, rows, _, h => by
    by_cases q : ∃ p ∈ rows, p.2 = 1
    · obtain ⟨p, hp, e⟩ := q
      have := Comb.one hp
      rw [e, show p.1 = 0 by have := (h p hp).1; omega] at this
      exact .inr this
    · refine .inl ⟨0, by decide, fun p hp => ?_⟩
      rw [show p.1 = 0 by have := (h p hp).1; omega, dot_zero, decide_eq_false fun z => q ⟨p, hp, z⟩]
  | n + 1, rows, hn, h => by
    by_cases q : ∃ p ∈ rows, p.1.testBit n = true
    · obtain ⟨pv, hpv, hbit⟩ := q
      let f : Nat × Nat → Nat × Nat := fun q => if q.1.testBit n then (q.1 ^^^ pv.1, q.2 ^^^ pv.2) else q
      have hf : ∀ q ∈ rows.map f, q.1 < 2 ^ n ∧ q.2 < 2 := fun q hq => by
        obtain ⟨p, hp, rfl⟩ := List.mem_map.mp hq
        obtain ⟨g1, g2⟩ := h p hp
        obtain ⟨g3, g4⟩ := h pv hpv
        show (if p.1.testBit n then (p.1 ^^^ pv.1, p.2 ^^^ pv.2) else p).1 < _ ∧ (if p.1.testBit n then (p.1 ^^^ pv.1, p.2 ^^^ pv.2) else p).2 < _
        cases z : p.1.testBit n with
        | true =>
          refine ⟨top_bit (Nat.xor_lt_two_pow g1 g3) ?_, xor_lt2 g2 g4⟩
          show (p.1 ^^^ pv.1).testBit n = false
          rw [Nat.testBit_xor, z, hbit]
          rfl
        | false => exact ⟨top_bit g1 z, g2⟩
      rcases alt n (rows.map f) (by omega) hf with ⟨x, hx, hs⟩ | c
      · refine .inl ⟨if dot pv.1 x = decide (pv.2 = 1) then x else x + 2 ^ n, ?_, fun p hp => ?_⟩
        · have : 2 ^ (n + 1) = 2 ^ n + 2 ^ n := by rw [Nat.pow_succ]; omega
          split <;> omega
        · have hp' := hs (f p) (List.mem_map.mpr ⟨p, hp, rfl⟩)
          obtain ⟨_, g2⟩ := h p hp
          obtain ⟨_, g4⟩ := h pv hpv
          have da := fun r : Nat => dot_add (r := r) hx (show n < 25 by omega)
          by_cases z : p.1.testBit n = true
          · have e : f p = (p.1 ^^^ pv.1, p.2 ^^^ pv.2) := if_pos z
            rw [e] at hp'
            simp only [dot_xor, dec_xor g2 g4] at hp'
            split
            · rename_i w
              rw [w] at hp'
              revert hp'
              generalize dot p.1 x = c1
              generalize decide (pv.2 = 1) = c2
              generalize decide (p.2 = 1) = c3
              cases c1 <;> cases c2 <;> cases c3 <;> simp
            · rename_i w
              rw [da, z]
              revert hp' w
              generalize dot p.1 x = c1
              generalize dot pv.1 x = c4
              generalize decide (pv.2 = 1) = c2
              generalize decide (p.2 = 1) = c3
              cases c1 <;> cases c2 <;> cases c3 <;> cases c4 <;> simp
          · have e : f p = p := if_neg z
            rw [e] at hp'
            split
            · exact hp'
            · rw [da, show p.1.testBit n = false by simpa using z, Bool.xor_false]
              exact hp'
      · refine .inr (c.trans fun p hp => ?_)
        obtain ⟨q, hq, rfl⟩ := List.mem_map.mp hp
        show Comb rows (if q.1.testBit n then (q.1 ^^^ pv.1, q.2 ^^^ pv.2) else q).1 (if q.1.testBit n then (q.1 ^^^ pv.1, q.2 ^^^ pv.2) else q).2
        split
        · exact (Comb.one hq).add (Comb.one hpv)
        · exact Comb.one hq
    · rcases alt n rows (by omega) (fun p hp => ⟨top_bit (h p hp).1 (by cases z : p.1.testBit n with | false => rfl | true => exact (q ⟨p, hp, z⟩).elim), (h p hp).2⟩) with ⟨x, hx, hs⟩ | c
      · exact .inl ⟨x, Nat.lt_of_lt_of_le hx (Nat.pow_le_pow_right (by decide) (by omega)), hs⟩
      · exact .inr c
end Gra

end
section
set_option Elab.async false
set_option linter.all false
set_option maxRecDepth 100000
set_option maxHeartbeats 4000000
set_option autoImplicit false
/-! GraG: corrections and barriers as solutions of equations. -/
namespace Gra
open PySem PySem.Spec PyProof.Rows L2 Eng
def need (w : Fin 4) : Bool := decide (w = 2 ∨ w = 3)
/-- the vertices a correction may have -/
def colsL (ins later : List Int) : List Int := later.filter fun x => !decide (x ∈ ins)
/-- what row r asks -/
def bitR (es : List (Int × Int)) (w : Fin 4) (v r : Int) : Bool := xor (decide (r = v ∧ w ≠ 3)) (need w && decide (r ∈ nbr es v))
def posR (es : List (Int × Int)) (cols : List Int) (r : Int) : List Int := places cols fun x => decide (x ∈ nbr es r)
def rowsC (n : Nat) (es : List (Int × Int)) (ins later : List Int) (w : Fin 4) (v : Int) : List (List Int × Nat) :=
  ((rng n).filter fun r => !decide (r ∈ later)).map fun r => (posR es (colsL ins later) r, (bitR es w v r).toNat)
/-- a correction from the picked vertices -/
def fX (cols : List Int) (w : Fin 4) (v : Int) (s : List Int) : List Int := isort (if need w = true then pick cols s ++ [v] else pick cols s)
section
variable {n : Nat} {es : List (Int × Int)} {ins later : List Int} {w : Fin 4} {v : Int}
theorem cnt_near (S : Simple n es) {Y : List Int} (hY : SS Y) (x : Int) : ((nbr es x).filter fun u => decide (u ∈ Y)).length = cnt es x Y := by
  have e : (nbr es x).filter (fun u => decide (u ∈ Y)) = Y.filter fun v => decide (x ∈ nbr es v) := by
    refine ss_ext ((ss_nbr S x).filter _) (hY.filter _) fun u => ?_
    rw [List.mem_filter, List.mem_filter, decide_eq_true_eq, decide_eq_true_eq, nbr_symm (v := x)]
    exact And.comm
  rw [e]
  rfl
theorem cnt_sym {x : Int} {Y : List Int} : (Y.filter fun u => decide (u ∈ nbr es x)).length = cnt es x Y := by
  unfold Eng.cnt
  congr 1
  apply List.filter_congr
  intro u _
  exact decide_eq_decide.mpr nbr_symm
theorem cnt_isort (x : Int) (l : List Int) : cnt es x (isort l) = cnt es x l := ((isort_perm l).filter _).length_eq
theorem cnt_snoc (x : Int) (l : List Int) : cnt es x (l ++ [v]) = cnt es x l + (decide (x ∈ nbr es v)).toNat := by
  unfold Eng.cnt
  rw [List.filter_append, List.length_append]
  congr 1
  cases h : decide (x ∈ nbr es v) <;> simp [List.filter_cons, h]
theorem cols_sub {x : Int} (h : x ∈ colsL ins later) : x ∈ later ∧ x ∉ ins := by
  obtain ⟨h1, h2⟩ := List.mem_filter.mp h
  exact ⟨h1, by simpa using h2⟩
theorem ss_cols (h : VS n later) : SS (colsL ins later) := h.ss.filter _
theorem mem_fX {cols s : List Int} (hs : VS cols.length s) {x : Int} : x ∈ fX cols w v s ↔ x ∈ pick cols s ∨ (need w = true ∧ x = v) := by
  unfold fX
  rw [mem_isort]
  split
  · rename_i h
    rw [List.mem_append, List.mem_singleton]
    simp [h]
  · rename_i h
    simp [h]
theorem ss_fX {cols s : List Int} (hc : SS cols) (hs : VS cols.length s) (hv : v ∉ cols) : SS (fX cols w v s) := by
  unfold fX
  refine ss_isort ?_
  have h := (ss_pick rfl hc hs).nodup
  split
  · refine List.nodup_append.mpr ⟨h, by simp, fun a ha b hb => ?_⟩
    rw [List.mem_singleton.mp hb]
    intro z
    subst z
    exact hv (pick_in rfl hs ha)
  · exact h
theorem cnt_fX {cols s : List Int} (x : Int) : cnt es x (fX cols w v s) = cnt es x (pick cols s) + (need w && decide (x ∈ nbr es v)).toNat := by
  unfold fX
  rw [cnt_isort]
  split
  · rename_i h
    rw [cnt_snoc, h]
    rfl
  · rename_i h
    rw [show need w = false by simpa using h]
    rfl
/-- what is asked of a vertex -/
structure Ask (n : Nat) (ins later : List Int) (w : Fin 4) (v : Int) : Prop where
  vn : v ∈ rng n
  vl : v ∉ later
  la : VS n later
  w0 : w ≠ 0
  vi : need w = true → v ∉ ins
theorem need_iff (w0 : w ≠ 0) : (w = 1 ∨ w = 2) ↔ w ≠ 3 := by
  revert w0
  revert w
  decide
theorem b_mod (k : Nat) (b : Bool) : (k % 2 = b.toNat) ↔ (decide (k % 2 = 1) = b) := by
  cases b <;> simp <;> omega
theorem row_iff (S : Simple n es) {cols s : List Int} (hs : VS cols.length s) (r : Int) : holdsB s (posR es cols r, (bitR es w v r).toNat) = true ↔ decide (cnt es r (fX cols w v s) % 2 = 1) = decide (r = v ∧ w ≠ 3) := by
  unfold holdsB posR
  simp only
  rw [decide_eq_true_eq, count_places hs, cnt_sym, b_mod, cnt_fX]
  unfold bitR
  generalize (need w && decide (r ∈ nbr es v)) = b
  generalize decide (r = v ∧ w ≠ 3) = c
  generalize cnt es r (pick cols s) = k
  have hb : decide ((k + b.toNat) % 2 = 1) = xor (decide (k % 2 = 1)) b := by
    cases b
    · simp
    · by_cases q : k % 2 = 1
      · rw [decide_eq_true q, decide_eq_false (by show ¬ (k + 1) % 2 = 1; omega)]; rfl
      · rw [decide_eq_false q, decide_eq_true (by show (k + 1) % 2 = 1; omega)]; rfl
  rw [hb]
  generalize decide (k % 2 = 1) = d
  cases b <;> cases c <;> cases d <;> simp
theorem corr_iff (S : Simple n es) (A : Ask n ins later w v) {s : List Int} (hs : VS (colsL ins later).length s) :
    doesB es ins w v (fX (colsL ins later) w v s) later = true ↔ (rowsC n es ins later w v).all (holdsB s) = true := by
  have hvc : v ∉ colsL ins later := fun z => A.vl (cols_sub z).1
  have inX : ∀ x ∈ fX (colsL ins later) w v s, x ∉ ins := fun x hx => by
    rcases (mem_fX hs).mp hx with h | ⟨h, rfl⟩
    · exact (cols_sub (pick_in rfl hs h)).2
    · exact A.vi h
  have e1 : ((fX (colsL ins later) w v s).any fun x => decide (x ∈ ins)) = false := List.any_eq_false.mpr fun x hx => by
    rw [decide_eq_true_eq]
    exact inX x hx
  have e2 : decide (v ∈ fX (colsL ins later) w v s) = decide (w = 2 ∨ w = 3) := decide_eq_decide.mpr (by
    rw [mem_fX hs]
    unfold need
    rw [decide_eq_true_eq]
    exact ⟨fun z => z.elim (fun z => (hvc (pick_in rfl hs z)).elim) fun z => z.1, fun z => .inr ⟨z, rfl⟩⟩)
  have rows : (rowsC n es ins later w v).all (holdsB s) = true ↔ ∀ r ∈ rng n, r ∉ later → decide (cnt es r (fX (colsL ins later) w v s) % 2 = 1) = decide (r = v ∧ w ≠ 3) := by
    unfold rowsC
    rw [List.all_eq_true]
    constructor
    · intro h r hr hl
      exact (row_iff S hs r).mp (h _ (List.mem_map.mpr ⟨r, List.mem_filter.mpr ⟨hr, by simpa using hl⟩, rfl⟩))
    · intro h p hp
      obtain ⟨r, hr, rfl⟩ := List.mem_map.mp hp
      obtain ⟨h1, h2⟩ := List.mem_filter.mp hr
      exact (row_iff S hs r).mpr (h r h1 (by simpa using h2))
  rw [rows]
  unfold doesB
  rw [e1, decide_eq_true e2]
  simp only [Bool.not_false, Bool.true_and, Bool.and_eq_true, decide_eq_true_eq, List.all_eq_true, Bool.or_eq_true]
  constructor
  · rintro ⟨h1, h2⟩ r hr hl
    refine decide_eq_decide.mpr ?_
    rw [← mem_oddL S]
    constructor
    · intro z
      rcases h2 r (List.mem_append_right _ z) with q | q
      · subst q
        rw [decide_eq_decide] at h1
        exact ⟨rfl, (need_iff A.w0).mp (h1.mp z)⟩
      · exact (hl q).elim
    · rintro ⟨rfl, z⟩
      rw [decide_eq_decide] at h1
      exact h1.mpr ((need_iff A.w0).mpr z)
  · intro h
    refine ⟨decide_eq_decide.mpr ?_, fun x hx => ?_⟩
    · have := decide_eq_decide.mp (h v A.vn A.vl)
      rw [mem_oddL S, this, need_iff A.w0]
      simp
    · by_cases q : x = v
      · exact .inl q
      · rcases List.mem_append.mp hx with z | z
        · rcases (mem_fX hs).mp z with z | ⟨_, z⟩
          · exact .inr (cols_sub (pick_in rfl hs z)).1
          · exact .inl z
        · refine .inr (Decidable.byContradiction fun hl => ?_)
          have := (decide_eq_decide.mp (h x (oddL_rng S z) hl)).mp ((mem_oddL S).mp z)
          exact q this.1
theorem corr_surj (A : Ask n ins later w v) {X : List Int} (hX : VS n X) (hd : doesB es ins w v X later = true) : ∃ s, VS (colsL ins later).length s ∧ fX (colsL ins later) w v s = X := by
  have hvc : v ∉ colsL ins later := fun z => A.vl (cols_sub z).1
  unfold doesB at hd
  simp only [Bool.and_eq_true, Bool.not_eq_true', List.any_eq_false, List.all_eq_true, decide_eq_true_eq, Bool.or_eq_true, decide_eq_decide] at hd
  obtain ⟨⟨d1, d2, _⟩, d4⟩ := hd
  obtain ⟨s, hs, e⟩ := pick_all (m := (colsL ins later).length) (cols := colsL ins later) rfl (ss_cols A.la) (X := X.filter fun x => !decide (x = v)) (hX.ss.filter _) (fun x hx => by
    obtain ⟨h1, h2⟩ := List.mem_filter.mp hx
    have hne : x ≠ v := by simpa using h2
    refine List.mem_filter.mpr ⟨(d4 x (List.mem_append_left _ h1)).resolve_left hne, by simpa using d1 x h1⟩)
  refine ⟨s, hs, ss_ext (ss_fX (ss_cols A.la) hs hvc) hX.ss fun x => ?_⟩
  rw [mem_fX hs, e, List.mem_filter]
  by_cases q : x = v
  · subst q
    unfold need
    rw [decide_eq_true_eq, ← d2]
    simp
  · simp [q]
theorem fX_before (A : Ask n ins later w v) {a b : List Int} (ha : VS (colsL ins later).length a) (hb : VS (colsL ins later).length b) (h : Before a b) : Before (fX (colsL ins later) w v a) (fX (colsL ins later) w v b) := by
  obtain ⟨i, i0, h1, h2, h3⟩ := pick_before rfl (ss_cols A.la) ha hb h
  refine ⟨i, fun j hj => ?_, fun z => ?_, (mem_fX hb).mpr (.inl h3)⟩
  · rw [mem_fX ha, mem_fX hb, h1 j hj]
  · rcases (mem_fX ha).mp z with z | ⟨_, rfl⟩
    · exact h2 z
    · exact A.vl (cols_sub i0).1
theorem vs_fX (A : Ask n ins later w v) {s : List Int} (hs : VS (colsL ins later).length s) : VS n (fX (colsL ins later) w v s) := ⟨ss_fX (ss_cols A.la) hs fun z => A.vl (cols_sub z).1, fun x hx => by
  rcases (mem_fX hs).mp hx with h | ⟨_, rfl⟩
  · exact A.la.rg x (cols_sub (pick_in rfl hs h)).1
  · exact A.vn⟩
/-- the least heavy correction -/
def corrO (n : Nat) (es : List (Int × Int)) (ins : List Int) (w : Fin 4) (v : Int) (later : List Int) : Option (List Int) := (setsS n n).find? fun X => doesB es ins w v X later
theorem corr_find (S : Simple n es) (A : Ask n ins later w v) : corrO n es ins w v later = ((setsS (colsL ins later).length (colsL ins later).length).find? fun s => (rowsC n es ins later w v).all (holdsB s)).map (fX (colsL ins later) w v) := by
  unfold corrO
  cases q : (setsS (colsL ins later).length (colsL ins later).length).find? fun s => (rowsC n es ins later w v).all (holdsB s) with
  | none =>
    rw [Option.map_none, find_none]
    intro X hX
    cases z : doesB es ins w v X later with
    | false => rfl
    | true =>
      obtain ⟨s, hs, rfl⟩ := corr_surj A hX z
      have := (find_none.mp q) s hs
      rw [(corr_iff S A hs).mp z] at this
      cases this
  | some s =>
    rw [Option.map_some]
    obtain ⟨⟨hs, hp⟩, hm⟩ := first_of_find q
    refine find_of_first ⟨⟨vs_fX A hs, (corr_iff S A hs).mpr hp⟩, fun X ⟨hX, z⟩ => ?_⟩
    obtain ⟨t, ht, rfl⟩ := corr_surj A hX z
    rcases hm t ⟨ht, (corr_iff S A ht).mp z⟩ with e | e
    · exact .inl (by rw [e])
    · exact .inr (fX_before A hs ht e)
theorem vs_posR {cols : List Int} {r : Int} : VS cols.length (posR es cols r) := vs_places
theorem rows_ok : ∀ p ∈ rowsC n es ins later w v, VS (colsL ins later).length p.1 ∧ p.2 < 2 := fun p hp => by
  obtain ⟨r, _, rfl⟩ := List.mem_map.mp hp
  exact ⟨vs_posR, by show (bitR es w v r).toNat < 2; cases bitR es w v r <;> decide⟩
/-! ### barriers -/
/-- whether a set is odd for what v needs, even for all that could help -/
def barsB (n : Nat) (es : List (Int × Int)) (ins held : List Int) (w : Fin 4) (v : Int) (Y : List Int) : Bool :=
  ((rng n).all fun o => decide (o ∈ held) || decide (o ∈ ins) || decide (cnt es o Y % 2 = 0)) && decide (((if need w = true then cnt es v Y else 0) + (decide (w ≠ 3 ∧ v ∈ Y)).toNat) % 2 = 1)
def ownP (es : List (Int × Int)) (held : List Int) (w : Fin 4) (v : Int) : List Int := places held fun x => (need w && decide (x ∈ nbr es v)) || decide (w ≠ 3 ∧ x = v)
def rowsE (n : Nat) (es : List (Int × Int)) (ins held : List Int) (w : Fin 4) (v : Int) : List (List Int × Nat) :=
  (((rng n).filter fun o => !decide (o ∈ held) && !decide (o ∈ ins)).map fun o => (posR es held o, 0)) ++ [(ownP es held w v, 1)]
theorem no_self (S : Simple n es) (x : Int) : x ∉ nbr es x := fun h => by
  rcases mem_nbr.mp h with z | z
  · have := S.ok _ z; simp only at this; omega
  · have := S.ok _ z; simp only at this; omega
theorem own_count (S : Simple n es) {Y : List Int} (hY : SS Y) : (Y.filter fun x => (need w && decide (x ∈ nbr es v)) || decide (w ≠ 3 ∧ x = v)).length = (if need w = true then cnt es v Y else 0) + (decide (w ≠ 3 ∧ v ∈ Y)).toNat := by
  have key : ∀ l : List Int, SS l → (l.filter fun x => (need w && decide (x ∈ nbr es v)) || decide (w ≠ 3 ∧ x = v)).length = (l.filter fun x => need w && decide (x ∈ nbr es v)).length + (l.filter fun x => decide (w ≠ 3 ∧ x = v)).length := by
    intro l _
    induction l with
    | nil => rfl
    | cons x l ih =>
      have ih := ih (by rename_i h; exact (List.pairwise_cons.mp h).2)
      rw [List.filter_cons, List.filter_cons, List.filter_cons]
      by_cases q : x = v
      · subst q
        simp only [decide_eq_false (no_self S x), Bool.and_false, Bool.false_or]
        split <;> simp only [List.length_cons, Bool.false_eq_true, if_false, ih] <;> omega
      · simp only [q, and_false, decide_false, Bool.or_false, Bool.false_eq_true, if_false]
        split <;> simp only [List.length_cons, ih] <;> omega
  rw [key Y hY]
  congr 1
  · split
    · rename_i h
      rw [h]
      simp only [Bool.true_and]
      exact cnt_sym
    · rename_i h
      rw [show need w = false by simpa using h]
      simp
  · by_cases q : w = 3
    · simp [q]
    · by_cases z : v ∈ Y
      · simp only [ne_eq, q, not_false_eq_true, true_and, z, decide_true, Bool.toNat_true]
        have e : (Y.filter fun x => decide (x = v)) = [v] := ss_ext (hY.filter _) (List.pairwise_singleton ..) fun x => by
          rw [List.mem_filter, decide_eq_true_eq, List.mem_singleton]
          exact ⟨fun h => h.2, fun h => ⟨h ▸ z, h⟩⟩
        rw [e]
        rfl
      · simp only [ne_eq, q, not_false_eq_true, true_and, z, decide_false, Bool.toNat_false]
        rw [List.filter_eq_nil_iff.mpr fun x hx => by simp; rintro rfl; exact z hx]
        rfl
theorem even_iff (S : Simple n es) {held : List Int} (hh : VS n held) {s : List Int} (hs : VS held.length s) : barsB n es ins held w v (pick held s) = true ↔ (rowsE n es ins held w v).all (holdsB s) = true := by
  have sp := ss_pick rfl hh.ss hs
  unfold barsB rowsE
  rw [List.all_append, Bool.and_eq_true, Bool.and_eq_true, List.all_eq_true, List.all_eq_true]
  have e1 : ∀ o, holdsB s (posR es held o, 0) = true ↔ cnt es o (pick held s) % 2 = 0 := fun o => by
    unfold holdsB posR
    simp only
    rw [decide_eq_true_eq, count_places hs, cnt_sym]
  have e2 : holdsB s (ownP es held w v, 1) = true ↔ ((if need w = true then cnt es v (pick held s) else 0) + (decide (w ≠ 3 ∧ v ∈ pick held s)).toNat) % 2 = 1 := by
    unfold holdsB ownP
    simp only
    rw [decide_eq_true_eq, count_places hs, own_count S sp]
  constructor
  · rintro ⟨h1, h2⟩
    refine ⟨fun p hp => ?_, by simp only [List.all_cons, List.all_nil, Bool.and_true]; exact e2.mpr (of_decide_eq_true h2)⟩
    obtain ⟨o, ho, rfl⟩ := List.mem_map.mp hp
    obtain ⟨g1, g2⟩ := List.mem_filter.mp ho
    simp only [Bool.and_eq_true, Bool.not_eq_true', decide_eq_false_iff_not] at g2
    have := h1 o g1
    simp only [g2.1, g2.2, decide_false, Bool.false_or, decide_eq_true_eq] at this
    exact (e1 o).mpr this
  · rintro ⟨h1, h2⟩
    simp only [List.all_cons, List.all_nil, Bool.and_true] at h2
    refine ⟨fun o ho => ?_, decide_eq_true (e2.mp h2)⟩
    by_cases g1 : o ∈ held
    · simp [g1]
    · by_cases g2 : o ∈ ins
      · simp [g2]
      · have := (e1 o).mp (h1 _ (List.mem_map.mpr ⟨o, List.mem_filter.mpr ⟨ho, by simp [g1, g2]⟩, rfl⟩))
        simp [this]
/-- the least heavy set that bars -/
def evenO (n : Nat) (es : List (Int × Int)) (ins held : List Int) (w : Fin 4) (v : Int) : Option (List Int) := (setsS n n).find? fun Y => (Y.all fun y => decide (y ∈ held)) && barsB n es ins held w v Y
theorem even_find (S : Simple n es) {held : List Int} (hh : VS n held) : evenO n es ins held w v = ((setsS held.length held.length).find? fun s => (rowsE n es ins held w v).all (holdsB s)).map (pick held) := by
  unfold evenO
  have sur : ∀ Y, VS n Y → ((Y.all fun y => decide (y ∈ held)) && barsB n es ins held w v Y) = true → ∃ s, VS held.length s ∧ pick held s = Y ∧ (rowsE n es ins held w v).all (holdsB s) = true := fun Y hY z => by
    rw [Bool.and_eq_true, List.all_eq_true] at z
    obtain ⟨s, hs, rfl⟩ := pick_all (m := held.length) rfl hh.ss hY.ss fun x hx => of_decide_eq_true (z.1 x hx)
    exact ⟨s, hs, rfl, (even_iff S hh hs).mp z.2⟩
  cases q : (setsS held.length held.length).find? fun s => (rowsE n es ins held w v).all (holdsB s) with
  | none =>
    rw [Option.map_none, find_none]
    intro Y hY
    cases z : (Y.all fun y => decide (y ∈ held)) && barsB n es ins held w v Y with
    | false => rfl
    | true =>
      obtain ⟨s, hs, _, e⟩ := sur Y hY z
      have := (find_none.mp q) s hs
      rw [e] at this
      cases this
  | some s =>
    rw [Option.map_some]
    obtain ⟨⟨hs, hp⟩, hm⟩ := first_of_find q
    have vp : VS n (pick held s) := ⟨ss_pick rfl hh.ss hs, fun x hx => hh.rg x (pick_in rfl hs hx)⟩
    refine find_of_first ⟨⟨vp, ?_⟩, fun Y ⟨hY, z⟩ => ?_⟩
    · rw [Bool.and_eq_true, List.all_eq_true]
      exact ⟨fun x hx => decide_eq_true (pick_in rfl hs hx), (even_iff S hh hs).mpr hp⟩
    · obtain ⟨t, ht, rfl, e⟩ := sur Y hY z
      rcases hm t ⟨ht, e⟩ with e | e
      · exact .inl (by rw [e])
      · obtain ⟨i, _, h1, h2, h3⟩ := pick_before rfl hh.ss hs ht e
        exact .inr ⟨i, h1, h2, h3⟩
theorem rowsE_ok {held : List Int} : ∀ p ∈ rowsE n es ins held w v, VS held.length p.1 ∧ p.2 < 2 := fun p hp => by
  rcases List.mem_append.mp hp with h | h
  · obtain ⟨o, _, rfl⟩ := List.mem_map.mp h
    exact ⟨vs_posR, show (0 : Nat) < 2 by decide⟩
  · rw [List.mem_singleton.mp h]
    exact ⟨show VS held.length (ownP es held w v) from vs_places (cols := held), show (1 : Nat) < 2 by decide⟩
/-! ### one or the other -/
theorem bit_posR {cols : List Int} {r : Int} (hc : cols.length ≤ 25) {i : Nat} {x : Int} (hx : cols[i]? = some x) : (setN (posR es cols r)).testBit i = decide (x ∈ nbr es r) := by
  have hi := (List.getElem?_eq_some_iff.mp hx).1
  rw [setN_bit, decide_eq_true (show i < 25 by omega), Bool.true_and]
  refine decide_eq_decide.mpr ?_
  unfold posR places
  rw [List.mem_filter, Int.toNat_natCast, getD_of hx, decide_eq_true_eq]
  exact ⟨fun z => z.2, fun z => ⟨mem_rng.mpr (by omega), z⟩⟩
theorem comb_set (S : Simple n es) {held : List Int} (hh : ∀ r ∈ rng n, r ∉ later → r ∈ held) (hl : later.length ≤ 25) {R B : Nat} (c : Comb (maskR (rowsC n es ins later w v)) R B) :
    ∃ Y, VS n Y ∧ (∀ y ∈ Y, y ∈ held) ∧ (∀ (i : Nat) (x : Int), (colsL ins later)[i]? = some x → R.testBit i = decide (cnt es x Y % 2 = 1)) ∧ B = (Y.filter (bitR es w v)).length % 2 := by
  have hc : (colsL ins later).length ≤ 25 := Nat.le_trans (len_f _ _) hl
  induction c with
  | zero => exact ⟨[], VS.nil, fun y h => (by cases h), fun i x _ => by simp [Eng.cnt], rfl⟩
  | @step r b p _ hp ih =>
    obtain ⟨Y, h1, h2, h3, h4⟩ := ih
    obtain ⟨q, hq, rfl⟩ := List.mem_map.mp hp
    obtain ⟨r0, hr0, rfl⟩ := List.mem_map.mp hq
    obtain ⟨g1, g2⟩ := List.mem_filter.mp hr0
    have g3 : r0 ∉ later := by simpa using g2
    have vr : VS n [r0] := ⟨List.pairwise_singleton .., fun x hx => by rw [List.mem_singleton.mp hx]; exact g1⟩
    refine ⟨sumL Y [r0], h1.sum vr, fun y hy => ?_, fun i x hx => ?_, ?_⟩
    · rcases mem_sumL.mp hy with z | z
      · exact h2 y z.1
      · rw [List.mem_singleton.mp z.1]
        exact hh r0 g1 g3
    · rw [Nat.testBit_xor, h3 i x hx, bit_posR hc hx]
      have e := cnt_sum (es := es) h1.ss vr.ss x
      have e1 : cnt es x [r0] = (decide (x ∈ nbr es r0)).toNat := by
        have := cnt_snoc (es := es) (v := r0) x []
        simpa [Eng.cnt] using this
      rw [e1] at e
      cases z : decide (x ∈ nbr es r0) with
      | true =>
        rw [z] at e
        rw [Bool.xor_true, ← decide_not]
        exact decide_eq_decide.mpr (by simp only [Bool.toNat_true] at e; omega)
      | false =>
        rw [z] at e
        rw [Bool.xor_false]
        exact decide_eq_decide.mpr (by simp only [Bool.toNat_false] at e; omega)
    · have e := sum_filter h1.ss vr.ss (bitR es w v)
      rw [e]
      cases z : bitR es w v r0 with
      | true =>
        simp only [List.filter_cons, z, if_true, List.filter_nil, List.length_cons, List.length_nil, Bool.toNat_true, h4]
        rcases Nat.mod_two_eq_zero_or_one (Y.filter (bitR es w v)).length with q | q <;> rw [q]
        · rw [show (0 : Nat) ^^^ 1 = 1 by decide]; omega
        · rw [show (1 : Nat) ^^^ 1 = 0 by decide]; omega
      | false =>
        simp only [List.filter_cons, z, Bool.false_eq_true, if_false, List.filter_nil, List.length_nil, Bool.toNat_false, h4, Nat.xor_zero]
        omega
/-- a held vertex without a correction has a set that bars -/
theorem bar_exists (S : Simple n es) (A : Ask n ins later w v) (hn : n ≤ 24) {held : List Int} (hh : ∀ r, r ∈ held ↔ r ∈ rng n ∧ r ∉ later) (hno : corrO n es ins w v later = none) : ∃ Y, evenO n es ins held w v = some Y := by
  have hll := A.la.len
  have hcl : (colsL ins later).length ≤ 24 := Nat.le_trans (len_f _ _) (by omega)
  rw [corr_find S A, Option.map_eq_none_iff] at hno
  rcases alt (colsL ins later).length (maskR (rowsC n es ins later w v)) (by omega) (fun p hp => by
    obtain ⟨q, hq, rfl⟩ := List.mem_map.mp hp
    obtain ⟨h1, h2⟩ := rows_ok q hq
    exact ⟨setN_lt_n h1.rg, h2⟩) with ⟨x, hx, hs⟩ | c
  · exfalso
    have vx : VS (colsL ins later).length (membersN x) := .members hx
    have ex : setN (membersN x) = x := by
      refine Nat.eq_of_testBit_eq fun i => ?_
      rw [setN_bit]
      cases z : x.testBit i with
      | false =>
        have nm : ¬ (i : Int) ∈ membersN x := fun q => by
          have := (mem_membersN.mp q).2
          rw [Int.toNat_natCast, z] at this
          cases this
        rw [decide_eq_false nm, Bool.and_false]
      | true =>
        have h4 := tb_bits z
        have h5 := bits_le hx
        rw [decide_eq_true (p := (i : Int) ∈ membersN x) (mem_membersN.mpr ⟨by omega, by rw [Int.toNat_natCast]; exact z⟩), decide_eq_true (show i < 25 by omega)]
        rfl
    have := find_none.mp hno (membersN x) vx
    rw [(sol_holds (n := (colsL ins later).length) (by omega) rows_ok (membersN x)).mpr (by rw [ex]; exact hs)] at this
    cases this
  · obtain ⟨Y, h1, h2, h3, h4⟩ := comb_set (held := held) S (fun r g1 g2 => (hh r).mpr ⟨g1, g2⟩) (by omega) c
    have key : ((Y.all fun y => decide (y ∈ held)) && barsB n es ins held w v Y) = true := by
      rw [Bool.and_eq_true, List.all_eq_true]
      refine ⟨fun y hy => decide_eq_true (h2 y hy), ?_⟩
      unfold barsB
      rw [Bool.and_eq_true, List.all_eq_true]
      refine ⟨fun o ho => ?_, decide_eq_true ?_⟩
      · by_cases g1 : o ∈ held
        · simp [g1]
        · by_cases g2 : o ∈ ins
          · simp [g2]
          · have g3 : o ∈ later := Decidable.byContradiction fun z => g1 ((hh o).mpr ⟨ho, z⟩)
            obtain ⟨i, hi⟩ := List.getElem?_of_mem (List.mem_filter.mpr ⟨g3, by simpa using g2⟩ : o ∈ colsL ins later)
            have := h3 i o hi
            rw [Nat.zero_testBit] at this
            have := of_decide_eq_false this.symm
            rw [decide_eq_true (show cnt es o Y % 2 = 0 by omega), Bool.or_true]
      · rw [← own_count S h1.ss]
        have e : (Y.filter fun x => (need w && decide (x ∈ nbr es v)) || decide (w ≠ 3 ∧ x = v)) = Y.filter (bitR es w v) := List.filter_congr fun x _ => by
          unfold bitR
          by_cases q : x = v
          · subst q
            simp [no_self S]
          · simp [q]
        rw [e]
        exact h4.symm
    cases q : evenO n es ins held w v with
    | some Y' => exact ⟨Y', rfl⟩
    | none =>
      have := find_none.mp q Y h1
      rw [key] at this
      cases this
end
end Gra

end
section
set_option Elab.async false
set_option linter.all false
set_option maxRecDepth 100000
set_option maxHeartbeats 4000000
set_option autoImplicit false
/-! GraH: correction, even_set, as the program finds them. -/
namespace Gra
open PySem PySem.Spec PyProof.Rows L2 Eng
def fdMask (s : Stmt) : FD := { name := "mask_of", ps := ["some"], N := ["some", "member"], st := s, body := bMaskOf }
def fdMembers (s : Stmt) : FD := { name := "members", ps := ["mask"], N := ["mask", "member"], st := s, body := bMembers }
def fdParity (s : Stmt) (im : Nat) : FD := { name := "parity", ps := ["mask"], N := ["mask"], st := s, body := bParity im }
def fdReduced (s : Stmt) : FD := { name := "reduced", ps := ["basis", "row", "bit"], N := ["basis", "row", "bit", "other", "more"], st := s, body := bReduced }
def fdFirst (s : Stmt) (ir ip : Nat) : FD := { name := "first_solution", ps := ["rows", "many"], N := ["rows", "many", "basis", "told", "variable", "row", "bit"], st := s, body := bFirst ir ip }
def bAllowed : Ss :=
 (.cons (.ret (.comp [("vertex", 2)] (.name 2) (.seq (.var 1)) (.some (.cmp .nin (.var 2) (.idx (.var 0) (.const (.int 2))))) (.var 2))) .nil)
def fdAllowed (s : Stmt) : FD := { name := "allowed", ps := ["graph", "later"], N := ["graph", "later", "vertex"], st := s, body := bAllowed }
def bNeeds : Ss :=
 (.cons (.ret (.cmp .inn (.idx (.idx (.var 0) (.const (.int 4))) (.var 1)) (.tup (.cons (.const (.str "XZ")) (.cons (.const (.str "YZ")) .nil))))) .nil)
def fdNeeds (s : Stmt) : FD := { name := "needs_itself", ps := ["graph", "vertex"], N := ["graph", "vertex"], st := s, body := bNeeds }
def bCorrection (ia ii ib ik if_ im : Nat) : Ss :=
 (.cons (.set 3 (.call ia (.cons (.var 0) (.cons (.var 2) .nil)))) (.cons (.set 4 (.ite (.call ii (.cons (.var 0) (.cons (.var 1) .nil))) (.call ib (.cons (.var 0) (.cons (.var 1) .nil))) (.tup .nil))) (.cons (.setO 5 (.lst .nil)) (.cons (.for (.name 6) (.rng1 (.idx (.var 0) (.const (.int 0))))
 (.cons (.ite (.cmp .nin (.var 6) (.var 2))
 (.cons (.set 9 (.call ib (.cons (.var 0) (.cons (.var 6) .nil)))) (.cons (.set 10 (.bin .bxor (.bi .int (.and (.cmp .eq (.var 6) (.var 1)) (.cmp .ne (.idx (.idx (.var 0) (.const (.int 4))) (.var 1)) (.const (.str "YZ"))))) (.bi .int (.cmp .inn (.var 6) (.var 4))))) (.cons (.app 5 (.tup (.cons (.call ik (.cons (.comp [("at", 11), ("one", 12)] (.tup (.cons (.name 11) (.cons (.name 12) .nil))) (.enum (.var 3)) (.some (.cmp .inn (.var 12) (.var 9))) (.var 11)) .nil)) (.cons (.var 10) .nil)))) .nil)))
 .nil)
 .nil))
 (.cons (.set 7 (.call if_ (.cons (.bor 5) (.cons (.bi .len (.var 3)) .nil)))) (.cons (.ite (.isN true (.var 7))
 (.cons (.ret (.const .none)) .nil)
 .nil)
 (.cons (.set 8 (.comp [("at", 11)] (.name 11) (.seq (.call im (.cons (.var 7) .nil))) .none (.idx (.var 3) (.var 11)))) (.cons (.ret (.bi .tuple (.bi .sorted (.ite (.call ii (.cons (.var 0) (.cons (.var 1) .nil))) (.bin .add (.var 8) (.lst (.cons (.var 1) .nil))) (.var 8))))) .nil))))))))
def fdCorrection (s : Stmt) (ia ii ib ik if_ im : Nat) : FD := { name := "correction", ps := ["graph", "vertex", "later"], N := ["graph", "vertex", "later", "columns", "own", "rows", "row", "found", "told", "near", "bit", "at", "one"], st := s, body := bCorrection ia ii ib ik if_ im }
def bEven (ii ib ik if_ im : Nat) : Ss :=
 (.cons (.setO 3 (.lst .nil)) (.cons (.for (.name 4) (.rng1 (.idx (.var 0) (.const (.int 0))))
 (.cons (.ite (.and (.cmp .nin (.var 4) (.var 2)) (.cmp .nin (.var 4) (.idx (.var 0) (.const (.int 2)))))
 (.cons (.set 5 (.call ib (.cons (.var 0) (.cons (.var 4) .nil)))) (.cons (.app 3 (.tup (.cons (.call ik (.cons (.comp [("at", 7), ("one", 8)] (.tup (.cons (.name 7) (.cons (.name 8) .nil))) (.enum (.var 2)) (.some (.cmp .inn (.var 8) (.var 5))) (.var 7)) .nil)) (.cons (.const (.int 0)) .nil)))) .nil))
 .nil)
 .nil))
 (.cons (.set 5 (.ite (.call ii (.cons (.var 0) (.cons (.var 1) .nil))) (.call ib (.cons (.var 0) (.cons (.var 1) .nil))) (.tup .nil))) (.cons (.setO 6 (.comp [("at", 7), ("one", 8)] (.tup (.cons (.name 7) (.cons (.name 8) .nil))) (.enum (.var 2)) (.some (.cmp .inn (.var 8) (.var 5))) (.var 7))) (.cons (.ite (.cmp .ne (.idx (.idx (.var 0) (.const (.int 4))) (.var 1)) (.const (.str "YZ")))
 (.cons (.app 6 (.index (.var 2) (.var 1))) .nil)
 .nil)
 (.cons (.app 3 (.tup (.cons (.call ik (.cons (.bor 6) .nil)) (.cons (.const (.int 1)) .nil)))) (.cons (.ret (.bi .tuple (.comp [("at", 7)] (.name 7) (.seq (.call im (.cons (.call if_ (.cons (.bor 3) (.cons (.bi .len (.var 2)) .nil))) .nil))) .none (.idx (.var 2) (.var 7))))) .nil)))))))
def fdEven (s : Stmt) (ii ib ik if_ im : Nat) : FD := { name := "even_set", ps := ["graph", "vertex", "held"], N := ["graph", "vertex", "held", "rows", "other", "near", "own", "at", "one"], st := s, body := bEven ii ib ik if_ im }
/-- the entries that corrections need -/
structure Lin (tab : List Ent) (ib ik im ip ir if_ ia ii : Nat) : Prop where
  b : ∃ s, tab[ib]? = some (.df (fdNb s))
  k : ∃ s, tab[ik]? = some (.df (fdMask s))
  m : ∃ s, tab[im]? = some (.df (fdMembers s))
  p : ∃ s, tab[ip]? = some (.df (fdParity s im))
  r : ∃ s, tab[ir]? = some (.df (fdReduced s))
  f : ∃ s, tab[if_]? = some (.df (fdFirst s ir ip))
  a : ∃ s, tab[ia]? = some (.df (fdAllowed s))
  i : ∃ s, tab[ii]? = some (.df (fdNeeds s))
section
variable {gl : List D} {tab : List Ent} {k : Nat} {st : Sta} {n : Nat} {es : List (Int × Int)} {ins outs later : List Int} {lab : List (Fin 4)} {w : Fin 4} {ib ik im ip ir if_ ia ii : Nat}
theorem lt1000 {m : Nat} (h : m < 2 ^ 25) : m < 2 ^ 1000 := Nat.lt_of_lt_of_le h (Nat.pow_le_pow_right (by decide) (by decide))
theorem setN_same {a b : List Int} (h : ∀ x, x ∈ a ↔ x ∈ b) : setN a = setN b := Nat.eq_of_testBit_eq fun i => by
  rw [setN_bit, setN_bit]
  congr 1
  exact decide_eq_decide.mpr (h _)
theorem sum_perm {a b : List Int} (h : a.Perm b) : a.sum = b.sum := by
  induction h with
  | nil => rfl
  | cons x _ ih => rw [List.sum_cons, List.sum_cons, ih]
  | swap x y l => rw [List.sum_cons, List.sum_cons, List.sum_cons, List.sum_cons]; omega
  | trans _ _ h1 h2 => exact h1.trans h2
theorem m_mask (L : Lin tab ib ik im ip ir if_ ia ii) {m : Nat} {l : List Int} (hm : m ≤ 25) (hs : l.Nodup) (hr : ∀ x ∈ l, x ∈ rng m) {d : D} (hd : seqD d = some (l.map .int)) : run gl tab (k + 1) ik [d] st = .ok (.int (setN l : Nat)) st := by
  obtain ⟨s, H⟩ := L.k
  refine r_ret H rfl ?_
  have hi : SS (isort l) := ss_isort hs
  have hir : ∀ x ∈ isort l, x ∈ rng m := fun x h => hr x (mem_isort.mp h)
  have ll : l.length ≤ 25 := by
    have := (VS.len (n := m) ⟨hi, hir⟩)
    rw [isort_len] at this
    omega
  refine x_ret (e_bi (e_comp (φ := .int) (xs := l) (fun _ => true) (fun i => .int ((2 ^ i.toNat : Nat) : Int)) (it_seq e_var hd) (fun x hx => ⟨[.val d, .val (.int x)], rfl, i_none, fun _ => ?_⟩) (szl (by omega))) ?_)
  · have h1 := mem_rng.mp (hr x hx)
    refine e_bin e_con e_var ?_
    have h2 := shlD 1 x.toNat (by omega) (by omega)
    rw [show ((x.toNat : Nat) : Int) = x by omega] at h2
    rw [Nat.one_mul] at h2
    exact h2
  · have e1 := sum_setN hm hi hir
    have e2 := sum_perm ((isort_perm l).map fun i => ((2 ^ i.toNat : Nat) : Int))
    have e3 := setN_same (a := isort l) (b := l) fun x => mem_isort
    rw [List.filter_eq_self.mpr (fun _ _ => rfl), map_map, sumD, ← e2, e1, e3]
theorem m_members (L : Lin tab ib ik im ip ir if_ ia ii) {m : Nat} (hm : m < 2 ^ 25) : run gl tab (k + 1) im [.int m] st = .ok (.tuple ((membersN m).map .int)) st := by
  obtain ⟨s, H⟩ := L.m
  exact r_ret H rfl (q_members (lt1000 hm))
theorem m_parity (L : Lin tab ib ik im ip ir if_ ia ii) {m : Nat} (hm : m < 2 ^ 25) : run gl tab (k + 2) ip [.int m] st = .ok (.int (parN m : Nat)) st := by
  obtain ⟨s, H⟩ := L.p
  refine r_ret H rfl ?_
  exact x_ret (e_bin (e_bi (z := .int ((membersN m).length : Nat)) (e_call (ea_cons e_var ea_nil) (m_members L hm)) (by simp only [biD, List.length_map])) e_con (modD2 _ 2 (by decide)))
theorem m_first (L : Lin tab ib ik im ip ir if_ ia ii) {m : Nat} {rows : List (Nat × Nat)} {d : D} (hm : m ≤ 24) (hr : ∀ p ∈ rows, p.1 < 2 ^ m ∧ p.2 < 2) (hl : rows.length ≤ 100000) (hd : seqD d = some (rows.map Eng.prD)) :
    ∃ o, Firsts rows m o ∧ run gl tab (k + 3) if_ [d, .int m] st = .ok (optD o) st := by
  obtain ⟨s, H⟩ := L.f
  obtain ⟨sr, Hr⟩ := L.r
  obtain ⟨o, h1, h2⟩ := q_first (cl := run gl tab (k + 2)) (gl := gl) (st := st) (ir := ir) (ip := ip) hm hr hl hd (fun B r b O h1 h2 => by
    obtain ⟨r', b', e, g⟩ := q_reduced (cl := run gl tab (k + 1)) (gl := gl) (st := st) O (by omega) h1 h2
    exact ⟨r', b', r_ret Hr rfl e, g⟩) (fun m hm => m_parity L hm)
  exact ⟨o, h1, r_ret H rfl h2⟩
theorem m_allowed (L : Lin tab ib ik im ip ir if_ ia ii) {pl : D} (hl : later.length ≤ 1000) : run gl tab (k + 1) ia [graphD n es ins outs pl, .list (later.map .int)] st = .ok (.list ((colsL ins later).map .int)) st := by
  obtain ⟨s, H⟩ := L.a
  refine r_ret H rfl ?_
  exact x_ret (e_comp (φ := .int) (xs := later) (fun x => !decide (x ∈ ins)) .int (it_seqL e_var) (fun x _ => ⟨[.val (graphD n es ins outs pl), .val (.list (later.map .int)), .val (.int x)], rfl, i_some (e_cmp e_var (e_idx e_var e_con (idxT (i := 2) rfl)) (c_nin _ _)), fun _ => e_var⟩) (szl (by omega)))
theorem c_wordT (w : Fin 4) (ws : List (Fin 4)) : cmpD .inn (wD w) (.tuple (ws.map wD)) = some (decide (w ∈ ws)) := by
  have h : cmpD .inn (wD w) (.tuple (ws.map wD)) = some ((ws.map wD).any fun z => PyData.eqv z (wD w)) := by
    show inD (.str _) (.tuple _) = _
    unfold inD
    simp only
    rw [if_pos (by rw [List.all_map]; exact List.all_eq_true.mpr fun x _ => rfl)]
    rfl
  rw [h]
  exact congrArg some (wEmb.any w ws)
theorem m_needs (L : Lin tab ib ik im ip ir if_ ia ii) {v : Nat} (hw : lab[v]? = some w) : run gl tab (k + 1) ii [gD n es ins outs lab, .int (v : Nat)] st = .ok (.bool (need w)) st := by
  obtain ⟨s, H⟩ := L.i
  refine r_ret H rfl ?_
  have e : need w = decide (w ∈ ([2, 3] : List (Fin 4))) := decide_eq_decide.mpr (by simp)
  rw [e]
  exact x_ret (e_cmp (word_at rfl rfl hw) (e_tup (es_cons e_con (es_cons e_con es_nil)) (szl (by show 2 ≤ 1000000; omega))) (c_wordT w [2, 3]))
/-! ### places, by enumerate -/
theorem enum_map {α : Type} {ψ : α → D} : ∀ (i : Nat) (xs : List α), enumD i (xs.map ψ) = (xs.zipIdx i).map fun p => .tuple [.int (p.2 : Nat), ψ p.1]
  | _, [] => rfl
  | i, x :: xs => by
    show .tuple [.int (i : Nat), ψ x] :: enumD (i + 1) (xs.map ψ) = _
    rw [enum_map (i + 1) xs]
    rfl
theorem rng_get (m j : Nat) : (rng m)[j]? = if j < m then some (j : Int) else none := by
  unfold rng
  rw [List.getElem?_map]
  by_cases h : j < m
  · rw [List.getElem?_range h, if_pos h]; rfl
  · rw [List.getElem?_eq_none (by simpa using h), if_neg h]; rfl
theorem zip_rng (cols : List Int) : cols.zipIdx 0 = (rng cols.length).map fun i => (cols.getD i.toNat 0, i.toNat) := by
  apply List.ext_getElem?
  intro j
  rw [List.getElem?_zipIdx, List.getElem?_map, rng_get]
  by_cases h : j < cols.length
  · rw [if_pos h, List.getElem?_eq_getElem h]
    show some (cols[j], 0 + j) = some (cols.getD ((j : Int)).toNat 0, ((j : Int)).toNat)
    rw [Int.toNat_natCast, getD_of (List.getElem?_eq_getElem h), Nat.zero_add]
  · rw [if_neg h, List.getElem?_eq_none (by omega)]
    rfl
theorem zip_places (cols : List Int) (q : Int → Bool) : ((cols.zipIdx 0).filter fun p => q p.1).map (fun p => PyData.int (p.2 : Nat)) = (places cols q).map .int := by
  rw [zip_rng, List.filter_map, List.map_map]
  unfold places
  apply List.map_congr_left
  intro i hi
  have := mem_rng.mp (List.mem_filter.mp hi).1
  show PyData.int ((i.toNat : Nat) : Int) = PyData.int i
  rw [show ((i.toNat : Nat) : Int) = i by omega]
theorem c_neW (a b : Fin 4) : cmpD .ne (wD a) (wD b) = some (!decide (a = b)) := by
  show (eqD _ _).map (!·) = _
  rw [wEmb.eqD a b]
  rfl
def optT : Option (List Int) → D
  | none => .none
  | some X => .tuple (X.map .int)
theorem intB {cl : Calls} {ρ : Eng.Env} {o : Bool} {a : E} {b : Bool} {st1 : Sta} (h : ev cl gl ρ true a st = .ok (.bool b) st1) : ev cl gl ρ o (.bi .int a) st = .ok (.int (b.toNat : Nat)) st1 := e_bi h (by cases b <;> rfl)
theorem app_filter {ys : List Int} {x : Int} {p : Int → Bool} {α : Type} {f : Int → α} (h : p x = true) : ((ys ++ [x]).filter p).map f = (ys.filter p).map f ++ [f x] := by
  rw [List.filter_append, List.map_append, List.filter_cons, h]
  rfl
theorem app_filterN {ys : List Int} {x : Int} {p : Int → Bool} (h : p x = false) : (ys ++ [x]).filter p = ys.filter p := by
  rw [List.filter_append, List.filter_cons, h]
  simp
theorem m_correction {ic v : Nat} {s0 : Stmt} (H : tab[ic]? = some (.df (fdCorrection s0 ia ii ib ik if_ im))) (L : Lin tab ib ik im ip ir if_ ia ii) (S : Simple n es) (he : es.length ≤ 100000) (hn : n ≤ 24) (A : Ask n ins later w v) (hw : lab[v]? = some w) :
    run gl tab (k + 4) ic [gD n es ins outs lab, .int (v : Nat), .list (later.map .int)] st = .ok (optT (corrO n es ins w v later)) st := by
  refine r_ret H rfl ?_
  obtain ⟨sb, Hb⟩ := L.b
  have hll := A.la.len
  have hcl : (colsL ins later).length ≤ n := Nat.le_trans (len_f _ _) hll
  generalize hcols : colsL ins later = cols at hcl
  have T : ∀ s3 s4 s5 s6 s7 s8 s9 s10 s11 s12, ∀ ρ : Eng.Env, ρ = [.val (gD n es ins outs lab), .val (.int (v : Nat)), .val (.list (later.map .int)), s3, s4, s5, s6, s7, s8, s9, s10, s11, s12] → execs (run gl tab (k + 3)) gl (bCorrection ia ii ib ik if_ im) ρ st = .ok (.ret (optT (corrO n es ins w v later))) st := fun s3 s4 s5 s6 s7 s8 s9 s10 s11 s12 ρ hρ => by
    subst hρ
    have hcal := m_allowed (gl := gl) (k := k + 2) (st := st) (n := n) (es := es) (ins := ins) (outs := outs) (pl := .tuple (lab.map wD)) L (later := later) (by omega)
    rw [hcols] at hcal
    refine x_set (e_call (ea_cons e_var (ea_cons e_var ea_nil)) hcal) (Nat.le_of_ble_eq_true rfl) ?_
    have hnd := m_needs (gl := gl) (k := k + 2) (st := st) (n := n) (es := es) (ins := ins) (outs := outs) L hw
    generalize hown : (if need w = true then nbr es v else []) = own
    have e4 : ∀ {c3 : Slot}, ev (run gl tab (k + 3)) gl [.val (gD n es ins outs lab), .val (.int (v : Nat)), .val (.list (later.map .int)), c3, s4, s5, s6, s7, s8, s9, s10, s11, s12] false (.ite (.call ii (.cons (.var 0) (.cons (.var 1) .nil))) (.call ib (.cons (.var 0) (.cons (.var 1) .nil))) (.tup .nil)) st = .ok (.tuple (own.map .int)) st := fun {c3} => by
      have e := e_call (gl := gl) (o := false) (ρ := [.val (gD n es ins outs lab), .val (.int (v : Nat)), .val (.list (later.map .int)), c3, s4, s5, s6, s7, s8, s9, s10, s11, s12]) (ea_cons (e := .var 0) e_var (ea_cons (e := .var 1) e_var ea_nil)) hnd
      cases hq : need w with
      | true =>
        rw [hq] at e hown
        rw [← hown]
        exact e_iteT e (e_call (ea_cons e_var (ea_cons e_var ea_nil)) (m_neighbours (k := k + 2) Hb he _))
      | false =>
        rw [hq] at e hown
        rw [← hown]
        exact e_iteF e (e_tup es_nil (Nat.zero_le _))
    refine x_set e4 (Nat.le_of_ble_eq_true rfl) ?_
    refine x_setO (ds := []) (e_lst es_nil (Nat.zero_le _)) (Nat.le_of_ble_eq_true rfl) ?_
    let rw_ : Int → Nat × Nat := fun r => (setN (posR es cols r), (bitR es w v r).toNat)
    refine xs_for (φ := .int) (xs := rng n) (fun ys _ ρ s => s = st ∧ ∃ s6 s9 s10, ρ = [.val (gD n es ins outs lab), .val (.int (v : Nat)), .val (.list (later.map .int)), .val (.list (cols.map .int)), .val (.tuple (own.map .int)), .lst (((ys.filter fun r => !decide (r ∈ later)).map rw_).map Eng.prD), s6, s7, s8, s9, s10, s11, s12])
      (evIt_rng1 (e_idx (y := .int 0) e_var e_con (idxT0 _ _)) (low (by omega))) ⟨rfl, _, _, _, rfl⟩ (fun ys x zs ρ s e h => ?_) (fun ρ' st' h => ?_)
    · obtain ⟨rfl, s6, s9, s10, rfl⟩ := h
      have hys : ys.length ≤ n := by
        have := congrArg List.length e
        rw [rng_len, List.length_append, List.length_cons] at this
        omega
      refine ⟨_, rfl, ?_⟩
      have t : ev (run gl tab (k + 3)) gl [.val (gD n es ins outs lab), .val (.int (v : Nat)), .val (.list (later.map .int)), .val (.list (cols.map .int)), .val (.tuple (own.map .int)), .lst (((ys.filter fun r => !decide (r ∈ later)).map rw_).map Eng.prD), .val (.int x), s7, s8, s9, s10, s11, s12] false (.cmp .nin (.var 6) (.var 2)) s = .ok (.bool (!decide (x ∈ later))) s := e_cmp e_var e_var (c_ninL _ _)
      by_cases q : x ∈ later
      · rw [decide_eq_true q] at t
        refine ⟨_, s, .inl (x_iteF t x_nil x_nil), rfl, .val (.int x), s9, s10, ?_⟩
        rw [app_filterN (by simp [q])]
        rfl
      · rw [decide_eq_false q] at t
        refine ⟨_, s, .inl (x_iteT t ?_ x_nil), rfl, .val (.int x), .val (.tuple ((nbr es x).map .int)), .val (.int ((bitR es w v x).toNat : Nat)), rfl⟩
        refine x_set (e_call (ea_cons e_var (ea_cons e_var ea_nil)) (m_neighbours (k := k + 2) Hb he _)) (Nat.le_of_ble_eq_true rfl) ?_
        have eb : ∀ {t9 : Slot}, ev (run gl tab (k + 3)) gl [.val (gD n es ins outs lab), .val (.int (v : Nat)), .val (.list (later.map .int)), .val (.list (cols.map .int)), .val (.tuple (own.map .int)), .lst (((ys.filter fun r => !decide (r ∈ later)).map rw_).map Eng.prD), .val (.int x), s7, s8, t9, s10, s11, s12] false (.bin .bxor (.bi .int (.and (.cmp .eq (.var 6) (.var 1)) (.cmp .ne (.idx (.idx (.var 0) (.const (.int 4))) (.var 1)) (.const (.str "YZ"))))) (.bi .int (.cmp .inn (.var 6) (.var 4)))) s = .ok (.int ((bitR es w v x).toNat : Nat)) s := fun {t9} => by
          have ea : ∀ {t9 : Slot}, ev (run gl tab (k + 3)) gl [.val (gD n es ins outs lab), .val (.int (v : Nat)), .val (.list (later.map .int)), .val (.list (cols.map .int)), .val (.tuple (own.map .int)), .lst (((ys.filter fun r => !decide (r ∈ later)).map rw_).map Eng.prD), .val (.int x), s7, s8, t9, s10, s11, s12] true (.and (.cmp .eq (.var 6) (.var 1)) (.cmp .ne (.idx (.idx (.var 0) (.const (.int 4))) (.var 1)) (.const (.str "YZ")))) s = .ok (.bool (decide (x = (v : Int) ∧ w ≠ 3))) s := fun {t9} => by
            have := e_and2 (o := true) (e_cmp (e_var (cl := run gl tab (k + 3)) (gl := gl) (st := s) (o := true) (i := 6) (d := .int x) (ρ := [.val (gD n es ins outs lab), .val (.int (v : Nat)), .val (.list (later.map .int)), .val (.list (cols.map .int)), .val (.tuple (own.map .int)), .lst (((ys.filter fun r => !decide (r ∈ later)).map rw_).map Eng.prD), .val (.int x), s7, s8, t9, s10, s11, s12]) rfl) (e_var (i := 1) (d := .int (v : Nat)) rfl) (c_eq _ _)) (e_cmp (word_at (i := 0) (j := 1) rfl rfl hw) (e_con (d := wD 3)) (c_neW w 3))
            rw [Bool.decide_and, decide_not]
            exact this
          refine e_bin (intB ea) (intB (e_cmp e_var e_var (c_inn _ _))) ?_
          have hx : decide (x ∈ own) = (need w && decide (x ∈ nbr es v)) := by
            rw [← hown]
            cases need w <;> simp
          rw [xorD, hx]
          unfold bitR
          generalize decide (x = (v : Int) ∧ w ≠ 3) = c1
          generalize (need w && decide (x ∈ nbr es v)) = c2
          cases c1 <;> cases c2 <;> rfl
        refine x_set eb (Nat.le_of_ble_eq_true rfl) ?_
        have ec : ∀ {t9 t10 : Slot}, t9 = .val (.tuple ((nbr es x).map .int)) → ev (run gl tab (k + 3)) gl [.val (gD n es ins outs lab), .val (.int (v : Nat)), .val (.list (later.map .int)), .val (.list (cols.map .int)), .val (.tuple (own.map .int)), .lst (((ys.filter fun r => !decide (r ∈ later)).map rw_).map Eng.prD), .val (.int x), s7, s8, t9, t10, s11, s12] false (.comp [("at", 11), ("one", 12)] (.tup (.cons (.name 11) (.cons (.name 12) .nil))) (.enum (.var 3)) (.some (.cmp .inn (.var 12) (.var 9))) (.var 11)) s = .ok (.list ((posR es cols x).map .int)) s := fun {t9 t10} h9 => by
          subst h9
          have := e_comp (cl := run gl tab (k + 3)) (gl := gl) (st := s) (o := false) (ρ := [.val (gD n es ins outs lab), .val (.int (v : Nat)), .val (.list (later.map .int)), .val (.list (cols.map .int)), .val (.tuple (own.map .int)), .lst (((ys.filter fun r => !decide (r ∈ later)).map rw_).map Eng.prD), .val (.int x), s7, s8, .val (.tuple ((nbr es x).map .int)), t10, s11, s12])
            (own := [("at", 11), ("one", 12)]) (tg := .tup (.cons (.name 11) (.cons (.name 12) .nil))) (it := .enum (.var 3)) (co := .some (.cmp .inn (.var 12) (.var 9))) (e := .var 11) (φ := fun p : Int × Nat => .tuple [.int (p.2 : Nat), .int p.1]) (xs := cols.zipIdx 0) (fun p => decide (p.1 ∈ nbr es x)) (fun p => .int (p.2 : Nat))
            ((it_enumL e_var).trans (by rw [enum_map])) (fun p _ => ⟨[.val (gD n es ins outs lab), .val (.int (v : Nat)), .val (.list (later.map .int)), .val (.list (cols.map .int)), .val (.tuple (own.map .int)), .lst (((ys.filter fun r => !decide (r ∈ later)).map rw_).map Eng.prD), .val (.int x), s7, s8, .val (.tuple ((nbr es x).map .int)), t10, .val (.int (p.2 : Nat)), .val (.int p.1)], rfl, i_some (e_cmp e_var e_var (c_inn _ _)), fun _ => e_var⟩) (by rw [List.length_zipIdx]; exact szl (by omega))
          rw [zip_places cols fun y => decide (y ∈ nbr es x)] at this
          exact this
        refine x_app rfl (e_tup (es_cons (e_call (ea_cons (ec rfl) ea_nil) (m_mask (k := k + 2) (m := cols.length) L (by omega) (vs_posR (es := es) (cols := cols) (r := x)).ss.nodup (vs_posR (es := es) (cols := cols) (r := x)).rg rfl)) (es_cons e_var es_nil)) (szl (by show 2 ≤ 1000000; omega))) (by rw [List.length_map, List.length_map]; exact szt (Nat.le_trans (len_f _ _) (by omega))) ?_
        rw [app_filter (by simp [q]), List.map_append]
        exact x_nil
    · obtain ⟨rfl, s6, s9, s10, rfl⟩ := h
      have hrows : ((rng n).filter fun r => !decide (r ∈ later)).map rw_ = maskR (rowsC n es ins later w v) := by
        unfold maskR rowsC
        rw [List.map_map, hcols]
        rfl
      rw [hrows]
      have hro := rows_ok (n := n) (es := es) (ins := ins) (later := later) (w := w) (v := (v : Int))
      rw [hcols] at hro
      obtain ⟨o, hF, eF⟩ := m_first (gl := gl) (k := k) (st := st') L (m := cols.length) (rows := maskR (rowsC n es ins later w v)) (d := .list ((maskR (rowsC n es ins later w v)).map Eng.prD)) (by omega) (fun p hp => by
        obtain ⟨q, hq, rfl⟩ := List.mem_map.mp hp
        obtain ⟨h1, h2⟩ := hro q hq
        exact ⟨setN_lt_n h1.rg, h2⟩) (by unfold maskR rowsC; rw [List.length_map, List.length_map]; exact Nat.le_trans (len_f _ _) (by rw [rng_len]; omega)) rfl
      have hfs := first_set (by omega) hro hF
      have hcf := corr_find S A
      rw [hcols] at hcf
      rw [hcf]
      refine x_set (e_call (w := true) (ea_cons e_bor (ea_cons (e_bi (z := .int (cols.length : Nat)) e_var (by simp only [biD, List.length_map])) ea_nil)) eF (by cases o <;> rfl)) (Nat.le_of_ble_eq_true rfl) ?_
      cases hq : (setsS cols.length cols.length).find? fun s => (rowsC n es ins later w v).all (holdsB s) with
      | none =>
        rw [hq] at hfs
        subst hfs
        exact x_iteR (e_isN (x := .none) e_var rfl) (x_ret e_con)
      | some s =>
        rw [hq] at hfs
        subst hfs
        have vs : VS cols.length s := (first_of_find hq).1.1
        have ems : membersN (setN s) = s := members_setN (by omega) vs.ss vs.rg
        refine x_skip (e_isN (x := .int (setN s : Nat)) e_var rfl) ?_
        have e8 := e_comp (cl := run gl tab (k + 3)) (gl := gl) (st := st') (o := false) (ρ := [.val (gD n es ins outs lab), .val (.int (v : Nat)), .val (.list (later.map .int)), .val (.list (cols.map .int)), .val (.tuple (own.map .int)), .lst ((maskR (rowsC n es ins later w v)).map Eng.prD), s6, .val (.int (setN s : Nat)), s8, s9, s10, s11, s12])
          (own := [("at", 11)]) (tg := .name 11) (it := .seq (.call im (.cons (.var 7) .nil))) (co := .none) (e := .idx (.var 3) (.var 11)) (φ := .int) (xs := s) (fun _ => true) (fun i => .int (cols.getD i.toNat 0)) (it_seqT ((e_call (ea_cons e_var ea_nil) (m_members (k := k + 2) L (setN_lt s))).trans (by rw [ems]))) (fun i hi => by
            obtain ⟨j, x, rfl, hx⟩ := at_of rfl (vs.rg i hi)
            refine ⟨[.val (gD n es ins outs lab), .val (.int (v : Nat)), .val (.list (later.map .int)), .val (.list (cols.map .int)), .val (.tuple (own.map .int)), .lst ((maskR (rowsC n es ins later w v)).map Eng.prD), s6, .val (.int (setN s : Nat)), s8, s9, s10, .val (.int (j : Nat)), s12], rfl, i_none, fun _ => e_idx e_var e_var (idxL ?_)⟩
            rw [List.getElem?_map, hx, Int.toNat_natCast, getD_of hx]
            rfl) (szl (by have := vs.len; omega))
        rw [List.filter_eq_self.mpr (fun _ _ => rfl), map_map s fun i => cols.getD i.toNat 0] at e8
        refine x_set e8 (Nat.le_of_ble_eq_true rfl) ?_
        have hnd' := m_needs (gl := gl) (k := k + 2) (st := st') (n := n) (es := es) (ins := ins) (outs := outs) L hw
        have e9 : ∀ {ρ : Eng.Env}, ρ[0]? = some (.val (gD n es ins outs lab)) → ρ[1]? = some (.val (.int (v : Nat))) → ρ[8]? = some (.val (.list ((pick cols s).map .int))) → ev (run gl tab (k + 3)) gl ρ true (.ite (.call ii (.cons (.var 0) (.cons (.var 1) .nil))) (.bin .add (.var 8) (.lst (.cons (.var 1) .nil))) (.var 8)) st' = .ok (.list ((if need w = true then pick cols s ++ [(v : Int)] else pick cols s).map .int)) st' := fun {ρ} r0 r1 r8 => by
          have e := e_call (gl := gl) (o := false) (ea_cons (e := .var 0) (e_var r0) (ea_cons (e := .var 1) (e_var r1) ea_nil)) hnd'
          cases hq : need w with
          | true =>
            rw [hq] at e
            refine e_iteT e (e_bin (e_var r8) (e_lst (es_cons (e_var r1) es_nil) (szl (by show 1 ≤ 1000000; omega))) ?_)
            rw [addB, addD_lst]
            · rw [if_pos rfl, List.map_append]; rfl
            · rw [List.length_map]
              unfold pick
              rw [List.length_map]
              have := vs.len
              exact szl (by show s.length + 1 ≤ 1000000; omega)
          | false =>
            rw [hq] at e
            exact e_iteF e (by rw [if_neg (by decide)]; exact e_var r8)
        exact x_ret (e_bi (e_bi (e9 rfl rfl rfl) (sortedD _)) rfl)
  exact T _ _ _ _ _ _ _ _ _ _ _ rfl
end
end Gra

end
section
set_option Elab.async false
set_option linter.all false
set_option maxRecDepth 100000
set_option maxHeartbeats 4000000
set_option autoImplicit false
/-! GraI: even_set, as the program finds it. -/
namespace Gra
open PySem PySem.Spec PyProof.Rows L2 Eng
section
variable {gl : List D} {tab : List Ent} {k : Nat} {st : Sta} {n : Nat} {es : List (Int × Int)} {ins outs later : List Int} {lab : List (Fin 4)} {w : Fin 4} {ib ik im ip ir if_ ia ii : Nat}
theorem e_index {cl : Calls} {ρ : Eng.Env} {o : Bool} {a b : E} {ns : List Int} {i : Int} {st1 st2 : Sta} (h1 : ev cl gl ρ true a st = .ok (.tuple (ns.map .int)) st1) (h2 : ev cl gl ρ false b st1 = .ok (.int i) st2) (hm : i ∈ ns) : ev cl gl ρ o (.index a b) st = .ok (.int (ns.idxOf i : Nat)) st2 := by
  simp only [ev, h1, R.bind_ok, seqB, if_true, h2, indexD, intsD_map, Option.bind_some, hm, R.of_some]
theorem places_enum {cl : Calls} {ρ : Eng.Env} {o : Bool} {own : List (Str × Nat)} {tg : Tg} {it : Eng.It} {co : OE} {e : E} {cols : List Int} {q : Int → Bool} {st1 : Sta} (hit : evIt cl gl ρ true it st = .ok (enumD 0 (cols.map .int)) st1) (hc : cols.length ≤ 1000)
    (h : ∀ p : Int × Nat, ∃ ρ', bindTg tg (.tuple [.int (p.2 : Nat), .int p.1]) (wipeE ρ (own.map (·.2))) = some ρ' ∧ evIf cl gl ρ' co st1 = .ok (q p.1) st1 ∧ ev cl gl ρ' false e st1 = .ok (.int (p.2 : Nat)) st1) :
    ev cl gl ρ o (.comp own tg it co e) st = .ok (.list ((places cols q).map .int)) st1 := by
  have := e_comp (cl := cl) (gl := gl) (st := st) (o := o) (ρ := ρ) (own := own) (tg := tg) (it := it) (co := co) (e := e) (φ := fun p : Int × Nat => .tuple [.int (p.2 : Nat), .int p.1]) (xs := cols.zipIdx 0) (fun p => q p.1) (fun p => .int (p.2 : Nat))
    (hit.trans (by rw [enum_map])) (fun p _ => by obtain ⟨ρ', g1, g2, g3⟩ := h p; exact ⟨ρ', g1, g2, fun _ => g3⟩) (by rw [List.length_zipIdx]; exact szl (by omega))
  rw [zip_places cols q] at this
  exact this
theorem pick_comp {cl : Calls} {ρ : Eng.Env} {o : Bool} {own : List (Str × Nat)} {tg : Tg} {it : Eng.It} {e : E} {cols s : List Int} {st1 : Sta} (hit : evIt cl gl ρ true it st = .ok (s.map .int) st1) (vs : VS cols.length s) (hc : cols.length ≤ 1000)
    (h : ∀ j : Nat, ∃ ρ', bindTg tg (.int (j : Nat)) (wipeE ρ (own.map (·.2))) = some ρ' ∧ ∀ x, cols[j]? = some x → ev cl gl ρ' false e st1 = .ok (.int x) st1) :
    ev cl gl ρ o (.comp own tg it .none e) st = .ok (.list ((pick cols s).map .int)) st1 := by
  have e8 := e_comp (cl := cl) (gl := gl) (st := st) (o := o) (ρ := ρ) (own := own) (tg := tg) (it := it) (co := .none) (e := e) (φ := .int) (xs := s) (fun _ => true) (fun i => .int (cols.getD i.toNat 0)) hit (fun i hi => by
    obtain ⟨j, x, rfl, hx⟩ := at_of rfl (vs.rg i hi)
    obtain ⟨ρ', g1, g2⟩ := h j
    refine ⟨ρ', g1, i_none, fun _ => ?_⟩
    rw [Int.toNat_natCast, getD_of hx]
    exact g2 x hx) (szl (by have := vs.len; omega))
  rw [List.filter_eq_self.mpr (fun _ _ => rfl), map_map s fun i => cols.getD i.toNat 0] at e8
  exact e8
theorem idx_mem {held : List Int} {v : Int} (h : v ∈ held) : held[held.idxOf v]? = some v := by
  have hl := List.idxOf_lt_length_of_mem h
  rw [List.getElem?_eq_getElem hl]
  simp
theorem m_even {ic v : Nat} {s0 : Stmt} (H : tab[ic]? = some (.df (fdEven s0 ii ib ik if_ im))) (L : Lin tab ib ik im ip ir if_ ia ii) (S : Simple n es) (he : es.length ≤ 100000) (hn : n ≤ 24) {held Y : List Int} (hh : VS n held) (hv : (v : Int) ∈ held) (hw : lab[v]? = some w) (hY : evenO n es ins held w v = some Y) :
    run gl tab (k + 4) ic [gD n es ins outs lab, .int (v : Nat), .tuple (held.map .int)] st = .ok (.tuple (Y.map .int)) st := by
  refine r_ret H rfl ?_
  obtain ⟨sb, Hb⟩ := L.b
  have hhl := hh.len
  have T : ∀ s3 s4 s5 s6 s7 s8, ∀ ρ : Eng.Env, ρ = [.val (gD n es ins outs lab), .val (.int (v : Nat)), .val (.tuple (held.map .int)), s3, s4, s5, s6, s7, s8] → execs (run gl tab (k + 3)) gl (bEven ii ib ik if_ im) ρ st = .ok (.ret (.tuple (Y.map .int))) st := fun s3 s4 s5 s6 s7 s8 ρ hρ => by
    subst hρ
    refine x_setO (ds := []) (e_lst es_nil (Nat.zero_le _)) (Nat.le_of_ble_eq_true rfl) ?_
    let rw_ : Int → Nat × Nat := fun o => (setN (posR es held o), 0)
    let fl : Int → Bool := fun o => !decide (o ∈ held) && !decide (o ∈ ins)
    refine xs_for (φ := .int) (xs := rng n) (fun ys _ ρ s => s = st ∧ ∃ s4 s5, ρ = [.val (gD n es ins outs lab), .val (.int (v : Nat)), .val (.tuple (held.map .int)), .lst (((ys.filter fl).map rw_).map Eng.prD), s4, s5, s6, s7, s8])
      (evIt_rng1 (e_idx (y := .int 0) e_var e_con (idxT0 _ _)) (low (by omega))) ⟨rfl, _, _, rfl⟩ (fun ys x zs ρ s e h => ?_) (fun ρ' st' h => ?_)
    · obtain ⟨rfl, s4, s5, rfl⟩ := h
      have hys : ys.length ≤ n := by
        have := congrArg List.length e
        rw [rng_len, List.length_append, List.length_cons] at this
        omega
      refine ⟨_, rfl, ?_⟩
      have t : ev (run gl tab (k + 3)) gl [.val (gD n es ins outs lab), .val (.int (v : Nat)), .val (.tuple (held.map .int)), .lst (((ys.filter fl).map rw_).map Eng.prD), .val (.int x), s5, s6, s7, s8] false (.and (.cmp .nin (.var 4) (.var 2)) (.cmp .nin (.var 4) (.idx (.var 0) (.const (.int 2))))) s = .ok (.bool (fl x)) s :=
        e_and2 (e_cmp e_var e_var (c_nin _ _)) (e_cmp e_var (e_idx e_var e_con (idxT (i := 2) rfl)) (c_nin _ _))
      cases q : fl x with
      | false =>
        rw [q] at t
        refine ⟨_, s, .inl (x_iteF t x_nil x_nil), rfl, .val (.int x), s5, ?_⟩
        rw [app_filterN q]
        rfl
      | true =>
        rw [q] at t
        refine ⟨_, s, .inl (x_iteT t ?_ x_nil), rfl, .val (.int x), .val (.tuple ((nbr es x).map .int)), rfl⟩
        refine x_set (e_call (ea_cons e_var (ea_cons e_var ea_nil)) (m_neighbours (k := k + 2) Hb he _)) (Nat.le_of_ble_eq_true rfl) ?_
        refine x_app rfl (e_tup (es_cons (e_call (ea_cons (places_enum (cols := held) (q := fun y => decide (y ∈ nbr es x)) (it_enumT e_var) (by omega) (fun p => ⟨[.val (gD n es ins outs lab), .val (.int (v : Nat)), .val (.tuple (held.map .int)), .lst (((ys.filter fl).map rw_).map Eng.prD), .val (.int x), .val (.tuple ((nbr es x).map .int)), s6, .val (.int (p.2 : Nat)), .val (.int p.1)], rfl, i_some (e_cmp e_var e_var (c_inn _ _)), e_var⟩)) ea_nil)
          (m_mask (k := k + 2) (m := held.length) L (by omega) (vs_posR (es := es) (cols := held) (r := x)).ss.nodup (vs_posR (es := es) (cols := held) (r := x)).rg rfl)) (es_cons e_con es_nil)) (szl (by show 2 ≤ 1000000; omega))) (by rw [List.length_map, List.length_map]; exact szt (Nat.le_trans (len_f _ _) (by omega))) ?_
        rw [app_filter q, List.map_append]
        exact x_nil
    · obtain ⟨rfl, s4, s5, rfl⟩ := h
      have hnd := m_needs (gl := gl) (k := k + 2) (st := st') (n := n) (es := es) (ins := ins) (outs := outs) L hw
      generalize hnear : (if need w = true then nbr es v else []) = near
      have e4 : ∀ {ρ : Eng.Env}, ρ[0]? = some (.val (gD n es ins outs lab)) → ρ[1]? = some (.val (.int (v : Nat))) → ev (run gl tab (k + 3)) gl ρ false (.ite (.call ii (.cons (.var 0) (.cons (.var 1) .nil))) (.call ib (.cons (.var 0) (.cons (.var 1) .nil))) (.tup .nil)) st' = .ok (.tuple (near.map .int)) st' := fun {ρ} r0 r1 => by
        have e := e_call (gl := gl) (o := false) (ea_cons (e := .var 0) (e_var r0) (ea_cons (e := .var 1) (e_var r1) ea_nil)) hnd
        cases hq : need w with
        | true =>
          rw [hq] at e hnear
          rw [← hnear]
          exact e_iteT e (e_call (ea_cons (e_var r0) (ea_cons (e_var r1) ea_nil)) (m_neighbours (k := k + 2) Hb he _))
        | false =>
          rw [hq] at e hnear
          rw [← hnear]
          exact e_iteF e (e_tup es_nil (Nat.zero_le _))
      refine x_set (e4 rfl rfl) (Nat.le_of_ble_eq_true rfl) ?_
      have hP : places held (fun y => decide (y ∈ near)) = places held fun y => need w && decide (y ∈ nbr es v) := by
        unfold places
        apply List.filter_congr
        intro i _
        rw [← hnear]
        cases need w <;> simp
      refine x_setO (places_enum (cols := held) (q := fun y => decide (y ∈ near)) (it_enumT e_var) (by omega) (fun p => ⟨[.val (gD n es ins outs lab), .val (.int (v : Nat)), .val (.tuple (held.map .int)), .lst ((((rng n).filter fl).map rw_).map Eng.prD), s4, .val (.tuple (near.map .int)), s6, .val (.int (p.2 : Nat)), .val (.int p.1)], rfl, i_some (e_cmp e_var e_var (c_inn _ _)), e_var⟩)) (Nat.le_of_ble_eq_true rfl) ?_
      rw [hP]
      generalize hPn : (places held fun y => need w && decide (y ∈ nbr es v)) = P
      have vP : VS held.length P := by rw [← hPn]; exact vs_places
      -- the vertex itself
      have tw : ∀ {ρ : Eng.Env}, ρ[0]? = some (.val (gD n es ins outs lab)) → ρ[1]? = some (.val (.int (v : Nat))) → ev (run gl tab (k + 3)) gl ρ false (.cmp .ne (.idx (.idx (.var 0) (.const (.int 4))) (.var 1)) (.const (.str "YZ"))) st' = .ok (.bool (!decide (w = 3))) st' := fun {ρ} r0 r1 => e_cmp (word_at r0 r1 hw) (e_con (d := wD 3)) (c_neW w 3)
      have hidx := List.idxOf_lt_length_of_mem hv
      have hget := idx_mem hv
      generalize hO : (if w = 3 then P else P ++ [((held.idxOf (v : Int) : Nat) : Int)]) = O
      have x6 : ∀ {r : R Fl} {ss : Ss} {s5 s6' s7' s8' : Slot}, execs (run gl tab (k + 3)) gl ss [.val (gD n es ins outs lab), .val (.int (v : Nat)), .val (.tuple (held.map .int)), .lst ((((rng n).filter fl).map rw_).map Eng.prD), s4, s5, .lst (O.map .int), s7', s8'] st' = r →
          execs (run gl tab (k + 3)) gl (.cons (.ite (.cmp .ne (.idx (.idx (.var 0) (.const (.int 4))) (.var 1)) (.const (.str "YZ"))) (.cons (.app 6 (.index (.var 2) (.var 1))) .nil) .nil) ss) [.val (gD n es ins outs lab), .val (.int (v : Nat)), .val (.tuple (held.map .int)), .lst ((((rng n).filter fl).map rw_).map Eng.prD), s4, s5, .lst (P.map .int), s7', s8'] st' = r := fun {r ss s5 s6' s7' s8'} hr => by
        by_cases q : w = 3
        · rw [if_pos q] at hO
          subst hO
          exact x_skip2 (tw rfl rfl) (by rw [decide_eq_true q]; rfl) hr
        · rw [if_neg q] at hO
          subst hO
          refine x_iteT ((tw rfl rfl).trans (by rw [decide_eq_false q]; rfl)) (x_app rfl (e_index e_var e_var hv) (by rw [List.length_map]; have := vP.len; exact szt (by omega)) x_nil) ?_
          rw [List.map_append] at hr
          exact hr
      refine x6 (s6' := .emp) ?_
      have notP : ((held.idxOf (v : Int) : Nat) : Int) ∉ P := fun z => by
        rw [← hPn] at z
        have := (List.mem_filter.mp z).2
        rw [Int.toNat_natCast, getD_of hget] at this
        simp only [Bool.and_eq_true, decide_eq_true_eq] at this
        exact no_self S _ this.2
      have nd : O.Nodup := by
        rw [← hO]
        split
        · exact vP.ss.nodup
        · refine List.nodup_append.mpr ⟨vP.ss.nodup, by simp, fun a ha b hb => ?_⟩
          rw [List.mem_singleton.mp hb]
          rintro rfl
          exact notP ha
      have rO : ∀ x ∈ O, x ∈ rng held.length := fun x hx => by
        rw [← hO] at hx
        split at hx
        · exact vP.rg x hx
        · rcases List.mem_append.mp hx with z | z
          · exact vP.rg x z
          · rw [List.mem_singleton.mp z]
            exact mem_rng.mpr (by omega)
      have eO : setN O = setN (ownP es held w v) := setN_same fun x => by
        rw [← hO]
        unfold ownP
        have hx : x ∈ P ↔ x ∈ rng held.length ∧ (need w && decide (held.getD x.toNat 0 ∈ nbr es v)) = true := by
          rw [← hPn]
          exact List.mem_filter
        have key : x ∈ places held (fun y => (need w && decide (y ∈ nbr es v)) || decide (w ≠ 3 ∧ y = v)) ↔ x ∈ P ∨ (w ≠ 3 ∧ x = ((held.idxOf (v : Int) : Nat) : Int)) := by
          rw [hx]
          unfold places
          rw [List.mem_filter, Bool.or_eq_true, decide_eq_true_eq]
          constructor
          · rintro ⟨h1, h2 | ⟨h2, h3⟩⟩
            · exact .inl ⟨h1, h2⟩
            · obtain ⟨j, y, rfl, hy⟩ := at_of rfl h1
              rw [Int.toNat_natCast, getD_of hy] at h3
              subst h3
              have e1 := ss_at hh.ss hy hget
              have e2 := ss_at hh.ss hget hy
              exact .inr ⟨h2, by omega⟩
          · rintro (⟨h1, h2⟩ | ⟨h2, rfl⟩)
            · exact ⟨h1, .inl h2⟩
            · exact ⟨mem_rng.mpr (by omega), .inr ⟨h2, by rw [Int.toNat_natCast, getD_of hget]⟩⟩
        rw [key]
        split
        · rename_i q
          simp [q]
        · rename_i q
          simp [q]
      refine x_app rfl (e_tup (es_cons (e_call (w := true) (ea_cons e_bor ea_nil) (m_mask (k := k + 2) (m := held.length) L (by omega) nd rO rfl) rfl) (es_cons e_con es_nil)) (szl (by show 2 ≤ 1000000; omega))) (by rw [List.length_map, List.length_map]; exact szt (Nat.le_trans (len_f _ _) (by rw [rng_len]; omega))) ?_
      have hrows : ((((rng n).filter fl).map rw_).map Eng.prD) ++ [.tuple [.int (setN O : Nat), .int 1]] = (maskR (rowsE n es ins held w v)).map Eng.prD := by
        unfold maskR rowsE
        rw [eO, List.map_append, List.map_append, List.map_map, List.map_map, List.map_map, List.map_map]
        rfl
      rw [hrows]
      have hro := rowsE_ok (n := n) (es := es) (ins := ins) (w := w) (v := (v : Int)) (held := held)
      obtain ⟨o, hF, eF⟩ := m_first (gl := gl) (k := k) (st := st') L (m := held.length) (rows := maskR (rowsE n es ins held w v)) (d := .list ((maskR (rowsE n es ins held w v)).map Eng.prD)) (by omega) (fun p hp => by
        obtain ⟨q, hq, rfl⟩ := List.mem_map.mp hp
        obtain ⟨h1, h2⟩ := hro q hq
        exact ⟨setN_lt_n h1.rg, h2⟩) (by
          unfold maskR rowsE
          rw [List.length_map, List.length_append, List.length_map]
          have := Nat.le_trans (len_f (fun o => !decide (o ∈ held) && !decide (o ∈ ins)) (rng n)) (by rw [rng_len]; exact Nat.le_refl _)
          show _ + 1 ≤ _
          omega) rfl
      have hfs := first_set (by omega) hro hF
      rw [even_find S hh] at hY
      cases hq : (setsS held.length held.length).find? fun s => (rowsE n es ins held w v).all (holdsB s) with
      | none => rw [hq] at hY; cases hY
      | some s =>
        rw [hq] at hfs hY
        subst hfs
        cases hY
        have vs : VS held.length s := (first_of_find hq).1.1
        have ems : membersN (setN s) = s := members_setN (by omega) vs.ss vs.rg
        have ecall : ∀ {ρ : Eng.Env} {o : Bool}, ρ[2]? = some (.val (.tuple (held.map .int))) → ρ[3]? = some (.lst ((maskR (rowsE n es ins held w v)).map Eng.prD)) → ev (run gl tab (k + 3)) gl ρ o (.call im (.cons (.call if_ (.cons (.bor 3) (.cons (.bi .len (.var 2)) .nil))) .nil)) st' = .ok (.tuple (s.map .int)) st' := fun {ρ o} r2 r3 => by
          have e1 := e_call (gl := gl) (o := false) (ea_cons (e := .bor 3) (e_bor r3) (ea_cons (e := .bi .len (.var 2)) (e_bi (z := .int (held.length : Nat)) (e_var r2) (by simp only [biD, List.length_map])) ea_nil)) eF (by show (_ && !noLD (PyData.int _)) = false; simp [Eng.noLD])
          have e2 := e_call (o := o) (ea_cons (e := .call if_ (.cons (.bor 3) (.cons (.bi .len (.var 2)) .nil))) e1 ea_nil) (m_members (k := k + 2) L (setN_lt s))
          rw [ems] at e2
          exact e2
        exact x_ret (e_bi (pick_comp (cols := held) (s := s) (it_seqT (ecall rfl rfl)) vs (by omega) (fun j => ⟨[.val (gD n es ins outs lab), .val (.int (v : Nat)), .val (.tuple (held.map .int)), .lst ((maskR (rowsE n es ins held w v)).map Eng.prD), s4, .val (.tuple (near.map .int)), .lst (O.map .int), .val (.int (j : Nat)), s8], rfl, fun x hx => e_idx e_var e_var (idxT (by rw [List.getElem?_map, hx]; rfl))⟩)) rfl)
  exact T _ _ _ _ _ _ _ rfl
end
end Gra

end
section
set_option Elab.async false
set_option linter.all false
set_option maxRecDepth 100000
set_option maxHeartbeats 4000000
set_option autoImplicit false
/-! GraJ: find_flow: the layers, one behind the other. -/
namespace Gra
open PySem PySem.Spec PyProof.Rows L2 Eng
/-! ### the layers, in plain Lean -/
def wAt (lab : List (Fin 4)) (v : Int) : Fin 4 := lab.getD v.toNat 0
def corrV (n : Nat) (es : List (Int × Int)) (ins : List Int) (lab : List (Fin 4)) (later : List Int) (v : Int) : Option (List Int) := corrO n es ins (wAt lab v) v later
def foundB (n : Nat) (es : List (Int × Int)) (ins : List Int) (lab : List (Fin 4)) (later : List Int) (v : Int) : Bool := !decide (v ∈ later) && (corrV n es ins lab later v).isSome
def foundL (n : Nat) (es : List (Int × Int)) (ins : List Int) (lab : List (Fin 4)) (later : List Int) : List Int := (rng n).filter (foundB n es ins lab later)
abbrev SL := List (List Int) × List Int
def stepV (n : Nat) (es : List (Int × Int)) (ins : List Int) (lab : List (Fin 4)) (later : List Int) (layer : Int) (S : SL) (v : Int) : SL :=
  if v ∈ later then S else match corrV n es ins lab later v with
    | some X => (S.1.set v.toNat X, S.2.set v.toNat layer)
    | none => S
def stepL (n : Nat) (es : List (Int × Int)) (ins : List Int) (lab : List (Fin 4)) (later : List Int) (layer : Int) (S : SL) : SL := (rng n).foldl (stepV n es ins lab later layer) S
def soon (n : Nat) (es : List (Int × Int)) (ins : List Int) (lab : List (Fin 4)) : Nat → List Int → Int → SL → List Int × SL
  | 0, later, _, S => (later, S)
  | k + 1, later, layer, S => if later.length < n then (if foundL n es ins lab later = [] then (later, S) else soon n es ins lab k (isort (later ++ foundL n es ins lab later)) (layer + 1) (stepL n es ins lab later (layer + 1) S)) else (later, S)
def soonest (n : Nat) (es : List (Int × Int)) (ins outs : List Int) (lab : List (Fin 4)) : List Int × SL := soon n es ins lab n outs 0 (List.replicate n [], List.replicate n 0)
def heldL (n : Nat) (later : List Int) : List Int := (rng n).filter fun v => !decide (v ∈ later)
def flowD (n : Nat) (es : List (Int × Int)) (ins : List Int) (lab : List (Fin 4)) (r : List Int × SL) : D :=
  if r.1.length < n then .tuple [.str "barrier", .tuple ((heldL n r.1).map .int), .tuple ((heldL n r.1).map fun v => optT (evenO n es ins (heldL n r.1) (wAt lab v) v))]
  else .tuple [.str "flow", .tuple (r.2.1.map tD), .tuple (r.2.2.map .int)]
section
variable {n : Nat} {es : List (Int × Int)} {ins outs later : List Int} {lab : List (Fin 4)}
theorem isort_add {f : List Int} (hl : VS n later) (hf : SS f) (hr : ∀ x ∈ f, x ∈ rng n) (hd : ∀ x ∈ f, x ∉ later) : VS n (isort (later ++ f)) := ⟨ss_isort (List.nodup_append.mpr ⟨hl.ss.nodup, hf.nodup, fun a ha b hb e => hd b hb (e ▸ ha)⟩), fun x hx => by
  rcases List.mem_append.mp (mem_isort.mp hx) with z | z
  · exact hl.rg x z
  · exact hr x z⟩
theorem found_facts {x : Int} (h : x ∈ foundL n es ins lab later) : x ∈ rng n ∧ x ∉ later ∧ (corrV n es ins lab later x).isSome = true := by
  obtain ⟨h1, h2⟩ := List.mem_filter.mp h
  unfold foundB at h2
  rw [Bool.and_eq_true] at h2
  exact ⟨h1, by simpa using h2.1, h2.2⟩
theorem vs_next (hl : VS n later) : VS n (isort (later ++ foundL n es ins lab later)) := isort_add hl ((ss_rng n).filter _) (fun x h => (found_facts h).1) fun x h => (found_facts h).2.1
theorem soon_more : ∀ (j k : Nat) (later : List Int) (layer : Int) (S : SL), n - later.length ≤ j → n - later.length ≤ k → soon n es ins lab j later layer S = soon n es ins lab k later layer S
  | 0, k, later, layer, S, h, _ => by
    cases k with
    | zero => rfl
    | succ k =>
      unfold soon
      rw [if_neg (by omega)]
  | j + 1, k, later, layer, S, h, h2 => by
    by_cases q : later.length < n
    · obtain ⟨k, rfl⟩ : ∃ i, k = i + 1 := ⟨k - 1, by omega⟩
      unfold soon
      rw [if_pos q, if_pos q]
      split
      · rfl
      · rename_i hne
        have hlen : (isort (later ++ foundL n es ins lab later)).length = later.length + (foundL n es ins lab later).length := by rw [isort_len, List.length_append]
        have hpos : 0 < (foundL n es ins lab later).length := List.length_pos_iff.mpr hne
        exact soon_more j k _ _ _ (by omega) (by omega)
    · cases k with
      | zero => unfold soon; rw [if_neg q]
      | succ k => unfold soon; rw [if_neg q, if_neg q]
theorem len_full (hl : VS n later) (h : ¬ later.length < n) : ∀ x ∈ rng n, x ∈ later := fun x hx => by
  have e : later = rng n := by
    refine ss_ext hl.ss (ss_rng n) fun z => ⟨hl.rg z, fun hz => Decidable.byContradiction fun nz => ?_⟩
    have h1 : later.length ≤ ((rng n).filter fun y => !decide (y = z)).length := by
      have : later = ((rng n).filter fun y => decide (y ∈ later)) := ss_ext hl.ss ((ss_rng n).filter _) fun y => by
        rw [List.mem_filter, decide_eq_true_eq]
        exact ⟨fun h => ⟨hl.rg y h, h⟩, fun h => h.2⟩
      have sub : List.Sublist ((rng n).filter fun y => decide (y ∈ later)) ((rng n).filter fun y => !decide (y = z)) := by
        have e2 : ((rng n).filter fun y => decide (y ∈ later)) = ((rng n).filter fun y => !decide (y = z)).filter fun y => decide (y ∈ later) := by
          rw [List.filter_filter]
          apply List.filter_congr
          intro y _
          by_cases q : y = z
          · subst q; simp [nz]
          · simp [q]
        rw [e2]
        exact List.filter_sublist
      rw [this]
      exact sub.length_le
    have h2 := filter_split (fun y : Int => decide (y = z)) (fun _ => true) (rng n)
    rw [List.filter_eq_self.mpr (fun _ _ => rfl), List.filter_eq_self.mpr (fun _ _ => rfl), List.filter_eq_self.mpr (fun _ _ => rfl), rng_len] at h2
    have h3 : 0 < ((rng n).filter fun y => decide (y = z)).length := List.length_pos_of_mem (List.mem_filter.mpr ⟨hz, decide_eq_true rfl⟩)
    omega
  rw [e]
  exact hx
end
/-- what is known of a drawn graph -/
structure GOk (n : Nat) (es : List (Int × Int)) (ins outs : List Int) (lab : List (Fin 4)) : Prop where
  n24 : n ≤ 24
  simple : Simple n es
  esl : es.length ≤ 100000
  vo : VS n outs
  vi : VS n ins
  len : lab.length = n
  w : ∀ v ∈ rng n, v ∉ outs → wAt lab v ≠ 0 ∧ (need (wAt lab v) = true → v ∉ ins)
section
variable {n : Nat} {es : List (Int × Int)} {ins outs later : List Int} {lab : List (Fin 4)}
theorem Right.gok {pa : Bool} (R : Right pa n es ins outs lab) (hn : n ≤ 24) : GOk n es ins outs lab where
  n24 := hn
  simple := R.simple
  esl := by have := R.esl; omega
  vo := R.vo
  vi := R.vi
  len := R.len
  w := fun v hv ho => by
    have hv' := mem_rng.mp hv
    obtain ⟨k, rfl⟩ : ∃ k : Nat, v = k := ⟨v.toNat, by omega⟩
    have hk : k < lab.length := by have := R.len; omega
    have := R.lab k lab[k] (List.getElem?_eq_getElem hk)
    have e : wAt lab (k : Int) = lab[k] := by
      unfold wAt
      rw [Int.toNat_natCast, List.getD_eq_getElem?_getD, List.getElem?_eq_getElem hk]
      rfl
    rw [e]
    generalize lab[k] = w at this
    unfold wOk at this
    rw [if_neg ho] at this
    split at this
    · have := of_decide_eq_true this
      subst this
      exact ⟨by decide, fun z => by cases z⟩
    · rename_i hi
      refine ⟨?_, fun _ => hi⟩
      rintro rfl
      rw [Bool.and_eq_true] at this
      exact absurd this.1 (by decide)
theorem GOk.word (g : GOk n es ins outs lab) {v : Nat} (hv : (v : Int) ∈ rng n) : lab[v]? = some (wAt lab (v : Int)) := by
  have hv' := mem_rng.mp hv
  have hk : v < lab.length := by have := g.len; omega
  unfold wAt
  rw [Int.toNat_natCast, List.getD_eq_getElem?_getD, List.getElem?_eq_getElem hk]
  rfl
theorem GOk.ask (g : GOk n es ins outs lab) (hl : VS n later) (ho : ∀ x ∈ outs, x ∈ later) {v : Int} (hv : v ∈ rng n) (hvl : v ∉ later) : Ask n ins later (wAt lab v) v := by
  obtain ⟨h1, h2⟩ := g.w v hv fun z => hvl (ho v z)
  exact ⟨hv, hvl, hl, h1, h2⟩
end
/-! ### steps -/
section
variable {cl : Calls} {gl : List D} {ρ ρ1 : Eng.Env} {st st1 st2 : Sta}
theorem x_stores {ts : List PT} {es : Es} {ds : List D} {ss : Ss} {r : R Fl} (h1 : evs cl gl ρ es st = .ok ds st1) (hl : ds.length = ts.length ∧ ds.length ≤ 1000) (h2 : stRun cl gl ts ds ρ st1 = .ok (.nx ρ1) st2) (h3 : execs cl gl ss ρ1 st2 = r) : execs cl gl (.cons (.stores ts es) ss) ρ st = r := by
  have e := e_tup (o := false) h1 (szl (by omega))
  simp only [Eng.execs, Eng.exec, e, R.bind_ok, hl.1, if_true, h2, h3]
theorem ixN_of {m j : Nat} (h : j < m) : ixN m (j : Int) = some j := by
  unfold ixN
  rw [if_pos (by omega), if_pos (by omega)]
  simp
theorem st_sub {i : Nat} {k : E} {ts : List PT} {d : D} {ds xs : List D} {j : Nat} {r : R Fl} (h1 : ρ[i]? = some (.lst xs)) (h2 : ev cl gl ρ false k st = .ok (.int (j : Nat)) st) (hj : j < xs.length) (h3 : stRun cl gl ts ds (ρ.set i (.lst (xs.set j d))) st = r) : stRun cl gl (.sub i k :: ts) (d :: ds) ρ st = r := by
  simp only [stRun, h1, h2, R.bind_ok, ixN_of hj, h3]
theorem st_nil : stRun cl gl [] [] ρ st = .ok (.nx ρ) st := by simp only [stRun]
theorem e_empL {a : E} {xs : List D} (h : ev cl gl ρ true a st = .ok (.list xs) st1) {o : Bool} : ev cl gl ρ o (.emp true a) st = .ok (.bool xs.isEmpty) st1 := by
  simp only [ev, h, R.bind_ok]
  cases xs <;> rfl
/-- a while that may return -/
theorem whl_invR {test : Eng.Env → Sta → R Bool} {body : Eng.Env → Sta → R Fl} (I : Nat → Eng.Env → Sta → Prop) (Q : Eng.Env → Sta → Prop) (Rt : D → Sta → Prop)
    (step : ∀ m ρ st, I m ρ st → (∃ st1, test ρ st = .ok false st1 ∧ Q ρ st1) ∨ ∃ st1, test ρ st = .ok true st1 ∧ ((∃ ρ' st' m', body ρ st1 = .ok (.nx ρ') st' ∧ m' < m ∧ I m' ρ' st') ∨ ∃ d st', body ρ st1 = .ok (.ret d) st' ∧ Rt d st')) :
    ∀ (fuel m : Nat) (ρ : Eng.Env) (st : Sta), m < fuel → I m ρ st → (∃ ρ' st', whlRun test body fuel ρ st = .ok (.nx ρ') st' ∧ Q ρ' st') ∨ ∃ d st', whlRun test body fuel ρ st = .ok (.ret d) st' ∧ Rt d st'
  | 0, m, _, _, h, _ => by omega
  | fuel + 1, m, ρ, st, h, hi => by
    rcases step m ρ st hi with ⟨st1, h1, hq⟩ | ⟨st1, h1, ⟨ρ', st', m', h2, h3, h4⟩ | ⟨d, st', h2, h3⟩⟩
    · refine .inl ⟨ρ, st1, ?_, hq⟩
      simp only [whlRun, h1, R.bind_ok]
      rfl
    · rcases whl_invR I Q Rt step fuel m' ρ' st' (by omega) h4 with ⟨ρ2, st2, e, q⟩ | ⟨d, st2, e, q⟩
      · refine .inl ⟨ρ2, st2, ?_, q⟩
        simp only [whlRun, h1, R.bind_ok, if_true, h2]
        exact e
      · refine .inr ⟨d, st2, ?_, q⟩
        simp only [whlRun, h1, R.bind_ok, if_true, h2]
        exact e
    · refine .inr ⟨d, st', ?_, h3⟩
      simp only [whlRun, h1, R.bind_ok, if_true, h2]
theorem x_whlR {c : E} {sa ss : Ss} {r : R Fl} {m : Nat} (I : Nat → Eng.Env → Sta → Prop) (Q : Eng.Env → Sta → Prop) (Rt : D → Sta → Prop) (hm : m < 2 ^ 60) (h0 : I m ρ st)
    (step : ∀ m ρ st, I m ρ st → (∃ st1, tst cl gl c ρ st = .ok false st1 ∧ Q ρ st1) ∨ ∃ st1, tst cl gl c ρ st = .ok true st1 ∧ ((∃ ρ' st' m', execs cl gl sa ρ st1 = .ok (.nx ρ') st' ∧ m' < m ∧ I m' ρ' st') ∨ ∃ d st', execs cl gl sa ρ st1 = .ok (.ret d) st' ∧ Rt d st'))
    (h1 : ∀ ρ' st', Q ρ' st' → execs cl gl ss ρ' st' = r) (h2 : ∀ d st', Rt d st' → r = .ok (.ret d) st') : execs cl gl (.cons (.whl c sa) ss) ρ st = r := by
  have hw : m < wf := by
    rw [wf_eq]
    exact Nat.lt_of_lt_of_le hm (Nat.pow_le_pow_right (by decide) (by decide))
  rcases whl_invR I Q Rt step wf m ρ st hw h0 with ⟨ρ', st', e, q⟩ | ⟨d, st', e, q⟩
  · simp only [Eng.execs, Eng.exec, e, R.bind_ok]
    exact h1 ρ' st' q
  · simp only [Eng.execs, Eng.exec, e, R.bind_ok]
    exact (h2 d st' q).symm
end
end Gra

end
section
set_option Elab.async false
set_option linter.all false
set_option maxRecDepth 100000
set_option maxHeartbeats 8000000
set_option autoImplicit false
/-! GraK: find_flow, as the program runs it. -/
namespace Gra
open PySem PySem.Spec PyProof.Rows L2 Eng
def bFlow (ic ie : Nat) : Ss :=
 (.cons (.setO 1 (.bin .mul (.lst (.cons (.tup .nil) .nil)) (.idx (.var 0) (.const (.int 0))))) (.cons (.setO 2 (.bin .mul (.lst (.cons (.const (.int 0)) .nil)) (.idx (.var 0) (.const (.int 0))))) (.cons (.set 3 (.bi .list (.idx (.var 0) (.const (.int 3))))) (.cons (.set 4 (.const (.int 0))) (.cons (.whl (.cmp .lt (.bi .len (.var 3)) (.idx (.var 0) (.const (.int 0))))
 (.cons (.set 4 (.bin .add (.var 4) (.const (.int 1)))) (.cons (.setO 5 (.lst .nil)) (.cons (.for (.name 6) (.rng1 (.idx (.var 0) (.const (.int 0))))
 (.cons (.set 7 (.ite (.cmp .inn (.var 6) (.var 3)) (.const .none) (.call ic (.cons (.var 0) (.cons (.var 6) (.cons (.var 3) .nil)))))) (.cons (.ite (.isN false (.var 7))
 (.cons (.stores [.sub 1 (.var 6), .sub 2 (.var 6)] (.cons (.var 7) (.cons (.var 4) .nil))) (.cons (.app 5 (.var 6)) .nil))
 .nil)
 .nil)))
 (.cons (.ite (.emp true (.bor 5))
 (.cons (.set 8 (.bi .tuple (.comp [("vertex", 6)] (.name 6) (.rng1 (.idx (.var 0) (.const (.int 0)))) (.some (.cmp .nin (.var 6) (.var 3))) (.var 6)))) (.cons (.ret (.tup (.cons (.const (.str "barrier")) (.cons (.var 8) (.cons (.bi .tuple (.comp [("vertex", 6)] (.name 6) (.seq (.var 8)) .none (.call ie (.cons (.var 0) (.cons (.var 6) (.cons (.var 8) .nil)))))) .nil))))) .nil))
 .nil)
 (.cons (.set 3 (.bi .sorted (.bin .add (.var 3) (.bor 5)))) .nil))))))
 (.cons (.ret (.tup (.cons (.const (.str "flow")) (.cons (.bi .tuple (.bor 1)) (.cons (.bi .tuple (.bor 2)) .nil))))) .nil))))))
def fdFlow (s : Stmt) (ic ie : Nat) : FD := { name := "find_flow", ps := ["graph"], N := ["graph", "sets", "layers", "later", "layer", "found", "vertex", "told", "held"], st := s, body := bFlow ic ie }
section
variable {gl : List D} {tab : List Ent} {k : Nat} {st : Sta} {n : Nat} {es : List (Int × Int)} {ins outs later : List Int} {lab : List (Fin 4)} {ib ik im ip ir if_ ia ii ic ie : Nat}
theorem mulL0 (xs : List D) (k : Int) (c : -(2 ^ 63) ≤ k ∧ k < 2 ^ 63 ∧ xs.length * k.toNat ≤ sizeLine) : mulD (.list xs) (.int k) = some (.list (List.replicate k.toNat xs).flatten) := by
  unfold mulD
  simp only [c, and_self, if_true]
theorem mulL {d : D} {m : Nat} (h : m ≤ 1000) : binD .mul (.list [d]) (.int (m : Nat)) = some (.list (List.replicate m d)) := by
  have e2 : (2 : Int) ^ 63 = 9223372036854775808 := by decide +kernel
  have c : -(2 ^ 63) ≤ (m : Int) ∧ (m : Int) < 2 ^ 63 ∧ [d].length * (m : Int).toNat ≤ sizeLine := by
    refine ⟨?_, ?_, ?_⟩
    · rw [e2]; omega
    · rw [e2]; omega
    · rw [Int.toNat_natCast, List.length_singleton, Nat.one_mul]
      exact szl (by omega)
  have f : (List.replicate m [d]).flatten = List.replicate m d := by
    clear c h
    induction m with
    | zero => rfl
    | succ m ih => rw [List.replicate_succ, List.replicate_succ, List.flatten_cons, ih]; rfl
  have g := mulL0 [d] (m : Int) c
  rw [Int.toNat_natCast, f] at g
  exact g
theorem step_len {layer : Int} {S : SL} {v : Int} : (stepV n es ins lab later layer S v).1.length = S.1.length ∧ (stepV n es ins lab later layer S v).2.length = S.2.length := by
  unfold stepV
  split
  · exact ⟨rfl, rfl⟩
  · split
    · exact ⟨List.length_set, List.length_set⟩
    · exact ⟨rfl, rfl⟩
theorem fold_len {layer : Int} : ∀ (ys : List Int) {S : SL}, (ys.foldl (stepV n es ins lab later layer) S).1.length = S.1.length ∧ (ys.foldl (stepV n es ins lab later layer) S).2.length = S.2.length
  | [], S => ⟨rfl, rfl⟩
  | y :: ys, S => by
    rw [List.foldl_cons]
    have h1 := fold_len (layer := layer) ys (S := stepV n es ins lab later layer S y)
    have h2 := step_len (n := n) (es := es) (ins := ins) (lab := lab) (later := later) (layer := layer) (S := S) (v := y)
    exact ⟨h1.1.trans h2.1, h1.2.trans h2.2⟩
def envF (n : Nat) (es : List (Int × Int)) (ins outs : List Int) (lab : List (Fin 4)) (S : SL) (later : List Int) (layer : Int) (s5 s6 s7 s8 : Slot) : Eng.Env := [.val (gD n es ins outs lab), .lst (S.1.map tD), .lst (S.2.map .int), .val (.list (later.map .int)), .val (.int layer), s5, s6, s7, s8]
theorem m_layer {sc : Stmt} (g : GOk n es ins outs lab) (Hc : tab[ic]? = some (.df (fdCorrection sc ia ii ib ik if_ im))) (L : Lin tab ib ik im ip ir if_ ia ii) (hl : VS n later) (ho : ∀ x ∈ outs, x ∈ later) {layer : Int} {S : SL} (h1 : S.1.length = n) (h2 : S.2.length = n) {s6 s7 s8 : Slot} :
    ∃ s6' s7', ∀ ss, execs (run gl tab (k + 4)) gl (.cons (.for (.name 6) (.rng1 (.idx (.var 0) (.const (.int 0))))
 (.cons (.set 7 (.ite (.cmp .inn (.var 6) (.var 3)) (.const .none) (.call ic (.cons (.var 0) (.cons (.var 6) (.cons (.var 3) .nil)))))) (.cons (.ite (.isN false (.var 7))
 (.cons (.stores [.sub 1 (.var 6), .sub 2 (.var 6)] (.cons (.var 7) (.cons (.var 4) .nil))) (.cons (.app 5 (.var 6)) .nil))
 .nil)
 .nil))) ss) (envF n es ins outs lab S later layer (.lst []) s6 s7 s8) st = execs (run gl tab (k + 4)) gl ss (envF n es ins outs lab (stepL n es ins lab later layer S) later layer (.lst ((foundL n es ins lab later).map .int)) s6' s7' s8) st := by
  have hn := g.n24
  have main := for_map (tg := .name 6) (φ := .int) (xs := rng n) (st := st) (ρ := envF n es ins outs lab S later layer (.lst []) s6 s7 s8)
    (body := execs (run gl tab (k + 4)) gl (.cons (.set 7 (.ite (.cmp .inn (.var 6) (.var 3)) (.const .none) (.call ic (.cons (.var 0) (.cons (.var 6) (.cons (.var 3) .nil)))))) (.cons (.ite (.isN false (.var 7))
 (.cons (.stores [.sub 1 (.var 6), .sub 2 (.var 6)] (.cons (.var 7) (.cons (.var 4) .nil))) (.cons (.app 5 (.var 6)) .nil))
 .nil)
 .nil)))
    (fun ys _ ρ s => s = st ∧ ∃ s6 s7, ρ = envF n es ins outs lab (ys.foldl (stepV n es ins lab later layer) S) later layer (.lst ((ys.filter (foundB n es ins lab later)).map .int)) s6 s7 s8)
    ⟨rfl, _, _, rfl⟩ (fun ys x zs ρ s e h => ?_)
  · obtain ⟨ρ', st', h1, rfl, s6', s7', rfl⟩ := main
    exact ⟨s6', s7', fun ss => x_for (evIt_rng1 (e_idx (y := .int 0) e_var e_con (idxT0 _ _)) (low (by omega))) h1 rfl⟩
  · obtain ⟨rfl, s6, s7, rfl⟩ := h
    obtain ⟨rfl, hv⟩ := rng_at e
    generalize hv0 : ys.length = v at hv
    have hx : (v : Int) ∈ rng n := mem_rng.mpr (by omega)
    have hfl := fold_len (n := n) (es := es) (ins := ins) (lab := lab) (later := later) (layer := layer) ys (S := S)
    have hys : (ys.filter (foundB n es ins lab later)).length ≤ 1000 := Nat.le_trans (len_f _ _) (by omega)
    generalize hS' : ys.foldl (stepV n es ins lab later layer) S = S' at hfl
    have eS : (ys ++ [(v : Int)]).foldl (stepV n es ins lab later layer) S = stepV n es ins lab later layer S' (v : Int) := by rw [List.foldl_append, hS']; rfl
    refine ⟨envF n es ins outs lab S' later layer (.lst ((ys.filter (foundB n es ins lab later)).map .int)) (.val (.int (v : Nat))) s7 s8, rfl, ?_⟩
    rw [eS]
    have skip : foundB n es ins lab later (v : Int) = false → stepV n es ins lab later layer S' (v : Int) = S' → ev (run gl tab (k + 4)) gl (envF n es ins outs lab S' later layer (.lst ((ys.filter (foundB n es ins lab later)).map .int)) (.val (.int (v : Nat))) s7 s8) false (.ite (.cmp .inn (.var 6) (.var 3)) (.const .none) (.call ic (.cons (.var 0) (.cons (.var 6) (.cons (.var 3) .nil))))) s = .ok .none s →
        ∃ ρ' st', (execs (run gl tab (k + 4)) gl (.cons (.set 7 (.ite (.cmp .inn (.var 6) (.var 3)) (.const .none) (.call ic (.cons (.var 0) (.cons (.var 6) (.cons (.var 3) .nil)))))) (.cons (.ite (.isN false (.var 7)) (.cons (.stores [.sub 1 (.var 6), .sub 2 (.var 6)] (.cons (.var 7) (.cons (.var 4) .nil))) (.cons (.app 5 (.var 6)) .nil)) .nil) .nil)) (envF n es ins outs lab S' later layer (.lst ((ys.filter (foundB n es ins lab later)).map .int)) (.val (.int (v : Nat))) s7 s8) s = .ok (.nx ρ') st' ∨
          execs (run gl tab (k + 4)) gl (.cons (.set 7 (.ite (.cmp .inn (.var 6) (.var 3)) (.const .none) (.call ic (.cons (.var 0) (.cons (.var 6) (.cons (.var 3) .nil)))))) (.cons (.ite (.isN false (.var 7)) (.cons (.stores [.sub 1 (.var 6), .sub 2 (.var 6)] (.cons (.var 7) (.cons (.var 4) .nil))) (.cons (.app 5 (.var 6)) .nil)) .nil) .nil)) (envF n es ins outs lab S' later layer (.lst ((ys.filter (foundB n es ins lab later)).map .int)) (.val (.int (v : Nat))) s7 s8) s = .ok (.ct ρ') st') ∧
          st' = s ∧ ∃ s6 s7, ρ' = envF n es ins outs lab (stepV n es ins lab later layer S' (v : Int)) later layer (.lst (((ys ++ [(v : Int)]).filter (foundB n es ins lab later)).map .int)) s6 s7 s8 := fun f1 f2 f3 => by
      refine ⟨_, s, .inl (x_set f3 (Nat.le_of_ble_eq_true rfl) (x_skip (e_isN (x := .none) e_var rfl) x_nil)), rfl, .val (.int (v : Nat)), .val .none, ?_⟩
      rw [app_filterN f1, f2]
      rfl
    by_cases q : (v : Int) ∈ later
    · refine skip (by unfold foundB; rw [decide_eq_true q]; rfl) (by unfold stepV; rw [if_pos q]) (e_iteT (e_cmp e_var e_var ((c_innL _ _).trans (by rw [decide_eq_true q]))) e_con)
    · have A := g.ask hl ho hx q
      have hc := m_correction (gl := gl) (k := k) (st := s) (outs := outs) Hc L g.simple g.esl hn A (g.word hx)
      have hcall : ev (run gl tab (k + 4)) gl (envF n es ins outs lab S' later layer (.lst ((ys.filter (foundB n es ins lab later)).map .int)) (.val (.int (v : Nat))) s7 s8) false (.ite (.cmp .inn (.var 6) (.var 3)) (.const .none) (.call ic (.cons (.var 0) (.cons (.var 6) (.cons (.var 3) .nil))))) s = .ok (optT (corrV n es ins lab later (v : Int))) s :=
        e_iteF (e_cmp e_var e_var ((c_innL _ _).trans (by rw [decide_eq_false q]))) (e_call (ea_cons e_var (ea_cons e_var (ea_cons e_var ea_nil))) hc)
      cases hcv : corrV n es ins lab later (v : Int) with
      | none =>
        rw [hcv] at hcall
        exact skip (by unfold foundB; rw [hcv]; simp) (by unfold stepV; rw [if_neg q, hcv]) hcall
      | some X =>
        rw [hcv] at hcall
        have fb : foundB n es ins lab later (v : Int) = true := by unfold foundB; rw [hcv, decide_eq_false q]; rfl
        have sv : stepV n es ins lab later layer S' (v : Int) = (S'.1.set v X, S'.2.set v layer) := by
          unfold stepV
          rw [if_neg q, hcv]
          simp
        refine ⟨_, s, .inl (x_set hcall (Nat.le_of_ble_eq_true rfl) (x_iteT (e_isN (x := .tuple (X.map .int)) e_var rfl) (x_stores (es_cons e_var (es_cons e_var es_nil)) ⟨rfl, by show 2 ≤ 1000; omega⟩ (st_sub (j := v) rfl e_var (by rw [List.length_map]; omega) (st_sub (j := v) rfl e_var (by rw [List.length_map]; omega) st_nil)) (x_app rfl e_var (by rw [List.length_map]; exact szt (by omega)) x_nil)) x_nil)), rfl, .val (.int (v : Nat)), .val (.tuple (X.map .int)), ?_⟩
        rw [sv, app_filter fb]
        show _ = envF n es ins outs lab (S'.1.set v X, S'.2.set v layer) later layer _ _ _ _
        unfold envF
        simp only [List.map_set]
        rfl
theorem m_flow {i : Nat} {s0 sc se : Stmt} (g : GOk n es ins outs lab) (H : tab[i]? = some (.df (fdFlow s0 ic ie))) (Hc : tab[ic]? = some (.df (fdCorrection sc ia ii ib ik if_ im))) (He : tab[ie]? = some (.df (fdEven se ii ib ik if_ im))) (L : Lin tab ib ik im ip ir if_ ia ii) :
    run gl tab (k + 5) i [gD n es ins outs lab] st = .ok (flowD n es ins lab (soonest n es ins outs lab)) st := by
  refine r_ret H rfl ?_
  have hn := g.n24
  have T : ∀ s3 s4 s5 s6 s7 s8, ∀ ρ : Eng.Env, ρ = [.val (gD n es ins outs lab), .emp, .emp, s3, s4, s5, s6, s7, s8] → execs (run gl tab (k + 4)) gl (bFlow ic ie) ρ st = .ok (.ret (flowD n es ins lab (soonest n es ins outs lab))) st := fun s3 s4 s5 s6 s7 s8 ρ hρ => by
    subst hρ
    refine x_setO (ds := List.replicate n (tD [])) (e_bin (e_lst (es_cons (e_tup es_nil (Nat.zero_le _)) es_nil) (szl (by show 1 ≤ 1000000; omega))) (e_idx (y := .int 0) e_var e_con (idxT0 _ _)) (mulL (by omega))) (Nat.le_of_ble_eq_true rfl) ?_
    refine x_setO (ds := List.replicate n (.int 0)) (e_bin (e_lst (es_cons e_con es_nil) (szl (by show 1 ≤ 1000000; omega))) (e_idx (y := .int 0) e_var e_con (idxT0 _ _)) (mulL (by omega))) (Nat.le_of_ble_eq_true rfl) ?_
    refine x_set (e_bi (e_idx (x := gD n es ins outs lab) (y := .int 3) (z := .tuple (outs.map .int)) e_var e_con (idxT (i := 3) rfl)) rfl) (Nat.le_of_ble_eq_true rfl) ?_
    refine x_set e_con (Nat.le_of_ble_eq_true rfl) ?_
    refine x_whlR (m := n - outs.length)
      (fun m ρ s => s = st ∧ ∃ (later : List Int) (layer : Int) (S : SL) (s5 s6 s7 : Slot), ρ = envF n es ins outs lab S later layer s5 s6 s7 s8 ∧ VS n later ∧ (∀ x ∈ outs, x ∈ later) ∧ S.1.length = n ∧ S.2.length = n ∧ m = n - later.length ∧ soon n es ins lab m later layer S = soonest n es ins outs lab)
      (fun ρ s => s = st ∧ ∃ (layer : Int) (s5 s6 s7 : Slot), ρ = envF n es ins outs lab (soonest n es ins outs lab).2 (soonest n es ins outs lab).1 layer s5 s6 s7 s8 ∧ ¬ (soonest n es ins outs lab).1.length < n)
      (fun d s => s = st ∧ d = flowD n es ins lab (soonest n es ins outs lab)) (Nat.lt_of_le_of_lt (show n - outs.length ≤ 24 by omega) (by decide))
      ⟨rfl, outs, 0, (List.replicate n [], List.replicate n 0), s5, s6, s7, ?_, g.vo, fun _ h => h, List.length_replicate, List.length_replicate, rfl, soon_more _ _ _ _ _ (Nat.le_refl _) (Nat.sub_le _ _)⟩ (fun m ρ s h => ?_) (fun ρ' st' h => ?_) (fun d st' h => ?_)
    · unfold envF
      simp only [List.map_replicate]
      rfl
    · obtain ⟨rfl, later, layer, S, s5, s6, s7, rfl, hl, ho, h1, h2, hm, hres⟩ := h
      have hll := hl.len
      have t : ev (run gl tab (k + 4)) gl (envF n es ins outs lab S later layer s5 s6 s7 s8) false (.cmp .lt (.bi .len (.var 3)) (.idx (.var 0) (.const (.int 0)))) s = .ok (.bool (decide ((later.length : Int) < (n : Int)))) s :=
        e_cmp (e_bi (z := .int (later.length : Nat)) e_var (by simp only [biD, List.length_map])) (e_idx (y := .int 0) e_var e_con (idxT0 _ _)) (c_lt _ _)
      by_cases q : later.length < n
      · refine .inr ⟨s, t_of (t.trans (by rw [decide_eq_true (by omega)])), ?_⟩
        obtain ⟨m', rfl⟩ : ∃ m', m = m' + 1 := ⟨m - 1, by omega⟩
        obtain ⟨s6', s7', hX⟩ := m_layer (k := k) (st := s) g Hc L hl ho (layer := layer + 1) h1 h2 (s6 := s6) (s7 := s7) (s8 := s8)
        by_cases qf : foundL n es ins lab later = []
        · refine .inr ⟨flowD n es ins lab (soonest n es ins outs lab), s, ?_, rfl, rfl⟩
          have er : soonest n es ins outs lab = (later, S) := by
            rw [← hres]
            unfold soon
            rw [if_pos q, if_pos qf]
          have hid : stepL n es ins lab later (layer + 1) S = S := by
            unfold stepL
            have : ∀ (ys : List Int), (∀ y ∈ ys, y ∉ foundL n es ins lab later ∧ y ∈ rng n) → ys.foldl (stepV n es ins lab later (layer + 1)) S = S := by
              intro ys
              induction ys with
              | nil => exact fun _ => rfl
              | cons y ys ih =>
                intro h
                obtain ⟨a1, a2⟩ := h y (List.mem_cons_self ..)
                rw [List.foldl_cons]
                have : stepV n es ins lab later (layer + 1) S y = S := by
                  unfold stepV
                  split
                  · rfl
                  · rename_i nl
                    split
                    · rename_i X hX
                      exact absurd (List.mem_filter.mpr ⟨a2, by unfold foundB; rw [hX, decide_eq_false nl]; rfl⟩) a1
                    · rfl
                rw [this]
                exact ih fun z hz => h z (List.mem_cons_of_mem _ hz)
            exact this _ fun y hy => ⟨by rw [qf]; simp, hy⟩
          rw [hid, qf] at hX
          generalize hheld : heldL n later = held
          have hh : VS n held := by rw [← hheld]; exact VS.sub List.filter_sublist
          have hm : ∀ r, r ∈ held ↔ r ∈ rng n ∧ r ∉ later := fun r => by
            rw [← hheld]
            unfold heldL
            rw [List.mem_filter]
            simp
          have hhl := hh.len
          refine x_set (d := .int (layer + 1)) (e_bin e_var e_con rfl) (Nat.le_of_ble_eq_true rfl) (x_setO (ds := []) (e_lst es_nil (Nat.zero_le _)) (Nat.le_of_ble_eq_true rfl) ((hX _).trans ?_))
          refine x_iteR ((e_empL (e_bor (ds := []) rfl)).trans rfl) ?_
          refine x_set (d := .tuple (held.map .int)) (e_bi (x := .list (held.map .int)) (by
            rw [← hheld]
            exact e_comp (φ := .int) (xs := rng n) (fun v => !decide (v ∈ later)) .int (evIt_rng1 (e_idx (y := .int 0) e_var e_con (idxT0 _ _)) (low (by omega))) (fun x _ => ⟨envF n es ins outs lab S later (layer + 1) (.lst []) (.val (.int x)) s7' s8, rfl, i_some (e_cmp e_var e_var (c_ninL _ _)), fun _ => e_var⟩) (by rw [rng_len]; exact szl (by omega))) rfl) (Nat.le_of_ble_eq_true rfl) ?_
          have ec := e_comp (cl := run gl tab (k + 4)) (gl := gl) (st := s) (o := true) (ρ := envF n es ins outs lab S later (layer + 1) (.lst []) s6' s7' (.val (.tuple (held.map .int)))) (own := [("vertex", 6)]) (tg := .name 6) (it := .seq (.var 8)) (co := .none) (e := .call ie (.cons (.var 0) (.cons (.var 6) (.cons (.var 8) .nil))))
            (φ := .int) (xs := held) (fun _ => true) (fun v => optT (evenO n es ins held (wAt lab v) v)) (it_seqT e_var) (fun x hx => ?_) (szl (by omega))
          · rw [List.filter_eq_self.mpr (fun _ _ => rfl)] at ec
            have fin : flowD n es ins lab (soonest n es ins outs lab) = .tuple [.str "barrier", .tuple (held.map .int), .tuple (held.map fun v => optT (evenO n es ins held (wAt lab v) v))] := by
              unfold flowD
              rw [er]
              simp only
              rw [if_pos q, hheld]
            rw [fin]
            exact x_ret (e_tup (es_cons e_con (es_cons e_var (es_cons (e_bi ec rfl) es_nil))) (szl (by show 3 ≤ 1000000; omega)))
          · obtain ⟨x1, x2⟩ := (hm x).mp hx
            have x3 := mem_rng.mp x1
            obtain ⟨v, rfl⟩ : ∃ v : Nat, x = v := ⟨x.toNat, by omega⟩
            have A := g.ask hl ho x1 x2
            have hno : corrO n es ins (wAt lab (v : Int)) v later = none := by
              cases z : corrO n es ins (wAt lab (v : Int)) v later with
              | none => rfl
              | some X =>
                have : (v : Int) ∈ foundL n es ins lab later := List.mem_filter.mpr ⟨x1, by unfold foundB corrV; rw [z, decide_eq_false x2]; rfl⟩
                rw [qf] at this
                cases this
            obtain ⟨Y, hY⟩ := bar_exists g.simple A hn hm hno
            refine ⟨envF n es ins outs lab S later (layer + 1) (.lst []) (.val (.int (v : Nat))) s7' (.val (.tuple (held.map .int))), rfl, i_none, fun _ => ?_⟩
            rw [hY]
            exact e_call (ea_cons e_var (ea_cons e_var (ea_cons e_var ea_nil))) (m_even (k := k) He L g.simple g.esl hn hh hx (g.word x1) hY)
        · have hne : (foundL n es ins lab later).isEmpty = false := by
            cases z : foundL n es ins lab later with
            | nil => exact absurd z qf
            | cons _ _ => rfl
          have hpos : 0 < (foundL n es ins lab later).length := List.length_pos_iff.mpr qf
          have hnl := vs_next (es := es) (ins := ins) (lab := lab) hl
          have hnlen : (isort (later ++ foundL n es ins lab later)).length = later.length + (foundL n es ins lab later).length := by rw [isort_len, List.length_append]
          have hflen : (foundL n es ins lab later).length ≤ n := Nat.le_trans (len_f _ _) (by rw [rng_len]; exact Nat.le_refl _)
          have fl := fold_len (n := n) (es := es) (ins := ins) (lab := lab) (later := later) (layer := layer + 1) (rng n) (S := S)
          refine .inl ⟨envF n es ins outs lab (stepL n es ins lab later (layer + 1) S) (isort (later ++ foundL n es ins lab later)) (layer + 1) (.lst ((foundL n es ins lab later).map .int)) s6' s7' s8, s, n - (isort (later ++ foundL n es ins lab later)).length, ?_, by omega, rfl, _, _, _, _, _, _, rfl, hnl, fun x hx => mem_isort.mpr (List.mem_append_left _ (ho x hx)), fl.1.trans h1, fl.2.trans h2, rfl, ?_⟩
          · refine x_set (d := .int (layer + 1)) (e_bin e_var e_con rfl) (Nat.le_of_ble_eq_true rfl) (x_setO (ds := []) (e_lst es_nil (Nat.zero_le _)) (Nat.le_of_ble_eq_true rfl) ((hX _).trans ?_))
            refine x_skip2 (e_empL (e_bor rfl)) (by rw [List.isEmpty_map]; exact hne) ?_
            refine x_set (e_bi (e_bin (z := .list ((later ++ foundL n es ins lab later).map .int)) e_var (e_bor rfl) ?_) (sortedD _)) (Nat.le_of_ble_eq_true rfl) x_nil
            rw [addB, addD_lst, List.map_append]
            rw [List.length_map, List.length_map]
            exact szl (by omega)
          · rw [← hres]
            conv => rhs; unfold soon
            rw [if_pos q, if_neg qf]
            exact soon_more _ _ _ _ _ (Nat.le_refl _) (by omega)
      · refine .inl ⟨s, t_of (t.trans (by rw [decide_eq_false (by omega)])), rfl, ?_⟩
        have hm0 : m = 0 := by omega
        subst hm0
        have er : soonest n es ins outs lab = (later, S) := hres.symm
        rw [er]
        exact ⟨layer, s5, s6, s7, rfl, q⟩
    · obtain ⟨rfl, layer, s5, s6, s7, rfl, hnl⟩ := h
      have fin : flowD n es ins lab (soonest n es ins outs lab) = .tuple [.str "flow", .tuple ((soonest n es ins outs lab).2.1.map tD), .tuple ((soonest n es ins outs lab).2.2.map .int)] := by
        unfold flowD
        rw [if_neg hnl]
      rw [fin]
      exact x_ret (e_tup (es_cons e_con (es_cons (e_bi e_bor rfl) (es_cons (e_bi e_bor rfl) es_nil))) (szl (by show 3 ≤ 1000000; omega)))
    · obtain ⟨rfl, rfl⟩ := h
      rfl
  exact T _ _ _ _ _ _ _ rfl
end
end Gra

end
section
set_option Elab.async false
set_option linter.all false
set_option maxRecDepth 100000
set_option maxHeartbeats 8000000
set_option autoImplicit false
/-! GraL: the law's own soonest flow, by all sets. -/
namespace Gra
open PySem PySem.Spec PyProof.Rows L2 Eng
def bSoon (ist id : Nat) : Ss :=
 (.cons (.set 1 (.idx (.var 0) (.const (.int 0)))) (.cons (.set 2 (.call ist (.cons (.var 1) .nil))) (.cons (.setO 3 (.bin .mul (.lst (.cons (.tup .nil) .nil)) (.var 1))) (.cons (.setO 4 (.bin .mul (.lst (.cons (.const (.int 0)) .nil)) (.var 1))) (.cons (.set 5 (.bi .list (.idx (.var 0) (.const (.int 3))))) (.cons (.set 6 (.const (.int 0))) (.cons (.set 7 (.const (.bool true))) (.cons (.whl (.and (.var 7) (.cmp .lt (.bi .len (.var 5)) (.var 1)))
 (.cons (.set 6 (.bin .add (.var 6) (.const (.int 1)))) (.cons (.setO 8 (.lst .nil)) (.cons (.for (.name 9) (.rng1 (.var 1))
 (.cons (.ite (.cmp .nin (.var 9) (.var 5))
 (.cons (.set 10 (.comp [("some", 11)] (.name 11) (.seq (.var 2)) (.some (.call id (.cons (.var 0) (.cons (.var 9) (.cons (.var 11) (.cons (.var 5) .nil)))))) (.var 11))) (.cons (.ite (.cmp .gt (.bi .len (.var 10)) (.const (.int 0)))
 (.cons (.stores [.sub 3 (.var 9), .sub 4 (.var 9)] (.cons (.idx (.var 10) (.const (.int 0))) (.cons (.var 6) .nil))) (.cons (.app 8 (.var 9)) .nil))
 .nil)
 .nil))
 .nil)
 .nil))
 (.cons (.set 5 (.bin .add (.var 5) (.bor 8))) (.cons (.set 7 (.cmp .gt (.bi .len (.bor 8)) (.const (.int 0)))) .nil))))))
 (.cons (.ret (.lst (.cons (.bi .tuple (.bor 3)) (.cons (.bi .tuple (.bor 4)) (.cons (.bi .tuple (.comp [("vertex", 9)] (.name 9) (.rng1 (.var 1)) (.some (.cmp .nin (.var 9) (.var 5))) (.var 9))) .nil))))) .nil)))))))))
def fdSoon (s : Stmt) (ist id : Nat) : FD := { name := "_law_soonest", ps := ["graph"], N := ["graph", "many", "all_sets", "sets", "layers", "later", "layer", "going", "found", "vertex", "good", "some"], st := s, body := bSoon ist id }
section
variable {gl : List D} {tab : List Ent} {k : Nat} {st : Sta} {n : Nat} {es : List (Int × Int)} {ins outs later : List Int} {lab : List (Fin 4)} {ist id il ir : Nat}
theorem does_same {w : Fin 4} {v : Int} {X lu : List Int} (h : ∀ x, x ∈ lu ↔ x ∈ later) : doesB es ins w v X lu = doesB es ins w v X later := by
  unfold doesB
  congr 2
  funext x
  simp only [h]
theorem step_none {layer : Int} {S : SL} (qf : foundL n es ins lab later = []) : stepL n es ins lab later layer S = S := by
  unfold stepL
  have : ∀ (ys : List Int), (∀ y ∈ ys, y ∉ foundL n es ins lab later ∧ y ∈ rng n) → ys.foldl (stepV n es ins lab later layer) S = S := by
    intro ys
    induction ys with
    | nil => exact fun _ => rfl
    | cons y ys ih =>
      intro h
      obtain ⟨a1, a2⟩ := h y (List.mem_cons_self ..)
      rw [List.foldl_cons]
      have : stepV n es ins lab later layer S y = S := by
        unfold stepV
        split
        · rfl
        · rename_i nl
          split
          · rename_i X hX
            exact absurd (List.mem_filter.mpr ⟨a2, by unfold foundB; rw [hX, decide_eq_false nl]; rfl⟩) a1
          · rfl
      rw [this]
      exact ih fun z hz => h z (List.mem_cons_of_mem _ hz)
  exact this _ fun y hy => ⟨by rw [qf]; simp, hy⟩
def envS (n : Nat) (es : List (Int × Int)) (ins outs : List Int) (lab : List (Fin 4)) (S : SL) (lu : List Int) (layer : Int) (g : Bool) (s8 s9 s10 s11 : Slot) : Eng.Env :=
  [.val (gD n es ins outs lab), .val (.int n), .val (.list ((setsS n n).map tD)), .lst (S.1.map tD), .lst (S.2.map .int), .val (.list (lu.map .int)), .val (.int layer), .val (.bool g), s8, s9, s10, s11]
theorem m_layerS {sd sl sr : Stmt} (g : GOk n es ins outs lab) (hn : n ≤ 10) (Hd : tab[id]? = some (.df (fdDoes sd il))) (Hl : tab[il]? = some (.df (fdLOdd sl ir))) (Hr : tab[ir]? = some (.df (fdNear sr))) {lu : List Int} (hsame : ∀ x, x ∈ lu ↔ x ∈ later) {layer : Int} {S : SL} (h1 : S.1.length = n) (h2 : S.2.length = n) {gb : Bool} {s9 s10 s11 : Slot} :
    ∃ s9' s10', ∀ ss, execs (run gl tab (k + 3)) gl (.cons (.for (.name 9) (.rng1 (.var 1))
 (.cons (.ite (.cmp .nin (.var 9) (.var 5))
 (.cons (.set 10 (.comp [("some", 11)] (.name 11) (.seq (.var 2)) (.some (.call id (.cons (.var 0) (.cons (.var 9) (.cons (.var 11) (.cons (.var 5) .nil)))))) (.var 11))) (.cons (.ite (.cmp .gt (.bi .len (.var 10)) (.const (.int 0)))
 (.cons (.stores [.sub 3 (.var 9), .sub 4 (.var 9)] (.cons (.idx (.var 10) (.const (.int 0))) (.cons (.var 6) .nil))) (.cons (.app 8 (.var 9)) .nil))
 .nil)
 .nil))
 .nil)
 .nil)) ss) (envS n es ins outs lab S lu layer gb (.lst []) s9 s10 s11) st = execs (run gl tab (k + 3)) gl ss (envS n es ins outs lab (stepL n es ins lab later layer S) lu layer gb (.lst ((foundL n es ins lab later).map .int)) s9' s10' s11) st := by
  have main := for_map (tg := .name 9) (φ := .int) (xs := rng n) (st := st) (ρ := envS n es ins outs lab S lu layer gb (.lst []) s9 s10 s11)
    (body := execs (run gl tab (k + 3)) gl (.cons (.ite (.cmp .nin (.var 9) (.var 5))
 (.cons (.set 10 (.comp [("some", 11)] (.name 11) (.seq (.var 2)) (.some (.call id (.cons (.var 0) (.cons (.var 9) (.cons (.var 11) (.cons (.var 5) .nil)))))) (.var 11))) (.cons (.ite (.cmp .gt (.bi .len (.var 10)) (.const (.int 0)))
 (.cons (.stores [.sub 3 (.var 9), .sub 4 (.var 9)] (.cons (.idx (.var 10) (.const (.int 0))) (.cons (.var 6) .nil))) (.cons (.app 8 (.var 9)) .nil))
 .nil)
 .nil))
 .nil)
 .nil))
    (fun ys _ ρ s => s = st ∧ ∃ s9 s10, ρ = envS n es ins outs lab (ys.foldl (stepV n es ins lab later layer) S) lu layer gb (.lst ((ys.filter (foundB n es ins lab later)).map .int)) s9 s10 s11)
    ⟨rfl, _, _, rfl⟩ (fun ys x zs ρ s e h => ?_)
  · obtain ⟨ρ', st', h1, rfl, s9', s10', rfl⟩ := main
    exact ⟨s9', s10', fun ss => x_for (evIt_rng1 (n := n) e_var (low (by omega))) h1 rfl⟩
  · obtain ⟨rfl, s9, s10, rfl⟩ := h
    obtain ⟨rfl, hv⟩ := rng_at e
    generalize hv0 : ys.length = v at hv
    have hx : (v : Int) ∈ rng n := mem_rng.mpr (by omega)
    have hfl := fold_len (n := n) (es := es) (ins := ins) (lab := lab) (later := later) (layer := layer) ys (S := S)
    have hys : (ys.filter (foundB n es ins lab later)).length ≤ 1000 := Nat.le_trans (len_f _ _) (by omega)
    generalize hS' : ys.foldl (stepV n es ins lab later layer) S = S' at hfl
    have eS : (ys ++ [(v : Int)]).foldl (stepV n es ins lab later layer) S = stepV n es ins lab later layer S' (v : Int) := by rw [List.foldl_append, hS']; rfl
    refine ⟨envS n es ins outs lab S' lu layer gb (.lst ((ys.filter (foundB n es ins lab later)).map .int)) (.val (.int (v : Nat))) s10 s11, rfl, ?_⟩
    rw [eS]
    have t : ev (run gl tab (k + 3)) gl (envS n es ins outs lab S' lu layer gb (.lst ((ys.filter (foundB n es ins lab later)).map .int)) (.val (.int (v : Nat))) s10 s11) false (.cmp .nin (.var 9) (.var 5)) s = .ok (.bool (!decide ((v : Int) ∈ lu))) s := e_cmp e_var e_var (c_ninL _ _)
    by_cases q : (v : Int) ∈ later
    · rw [decide_eq_true ((hsame _).mpr q)] at t
      refine ⟨_, s, .inl (x_iteF t x_nil x_nil), rfl, .val (.int (v : Nat)), s10, ?_⟩
      have f1 : foundB n es ins lab later (v : Int) = false := by unfold foundB; rw [decide_eq_true q]; rfl
      have f2 : stepV n es ins lab later layer S' (v : Int) = S' := by unfold stepV; rw [if_pos q]
      rw [app_filterN f1, f2]
    · rw [decide_eq_false fun z => q ((hsame _).mp z)] at t
      have hsl := setsS_len n n
      have hp : 2 ^ n ≤ 2 ^ 10 := Nat.pow_le_pow_right (by decide) hn
      have e10 := e_comp (cl := run gl tab (k + 3)) (gl := gl) (st := s) (o := false) (ρ := envS n es ins outs lab S' lu layer gb (.lst ((ys.filter (foundB n es ins lab later)).map .int)) (.val (.int (v : Nat))) s10 s11) (own := [("some", 11)]) (tg := .name 11) (it := .seq (.var 2)) (co := .some (.call id (.cons (.var 0) (.cons (.var 9) (.cons (.var 11) (.cons (.var 5) .nil)))))) (e := .var 11)
        (φ := tD) (xs := setsS n n) (fun X => doesB es ins (wAt lab (v : Int)) (v : Int) X later) tD (it_seqL e_var) (fun X hX => ⟨envS n es ins outs lab S' lu layer gb (.lst ((ys.filter (foundB n es ins lab later)).map .int)) (.val (.int (v : Nat))) s10 (.val (tD X)), rfl, i_some (by
          rw [← does_same hsame]
          have vX := setsS_vs hX
          have lX := vX.len
          exact e_call (ea_cons e_var (ea_cons e_var (ea_cons e_var (ea_cons e_var ea_nil)))) (m_does (k := k) Hd Hl Hr g.simple g.esl (by omega) (g.word hx) vX.ss (by omega) (.inr rfl))), fun _ => e_var⟩) (szl (by omega))
      have hhead : ((setsS n n).filter fun X => doesB es ins (wAt lab (v : Int)) (v : Int) X later).head? = corrV n es ins lab later (v : Int) := List.head?_filter ..
      have hglen : ((setsS n n).filter fun X => doesB es ins (wAt lab (v : Int)) (v : Int) X later).length ≤ 2 ^ n := by rw [← hsl]; exact len_f _ _
      generalize ((setsS n n).filter fun X => doesB es ins (wAt lab (v : Int)) (v : Int) X later) = good at e10 hhead hglen
      have t2 : ∀ {ρ : Eng.Env}, ρ[10]? = some (.val (.list (good.map tD))) → ev (run gl tab (k + 3)) gl ρ false (.cmp .gt (.bi .len (.var 10)) (.const (.int 0))) s = .ok (.bool (decide (0 < (good.length : Int)))) s := fun {ρ} h => e_cmp (e_bi (z := .int (good.length : Nat)) (e_var h) (by simp only [biD, List.length_map])) e_con (c_gt _ _)
      cases good with
      | nil =>
        have hcv : corrV n es ins lab later (v : Int) = none := hhead.symm
        refine ⟨_, s, .inl (x_iteT t (x_set e10 (Nat.le_of_ble_eq_true rfl) (x_skip (t2 rfl) x_nil)) x_nil), rfl, .val (.int (v : Nat)), .val (.list []), ?_⟩
        have f1 : foundB n es ins lab later (v : Int) = false := by unfold foundB; rw [hcv]; simp
        have f2 : stepV n es ins lab later layer S' (v : Int) = S' := by unfold stepV; rw [if_neg q, hcv]
        rw [app_filterN f1, f2]
        rfl
      | cons X good =>
        have hcv : corrV n es ins lab later (v : Int) = some X := hhead.symm
        have fb : foundB n es ins lab later (v : Int) = true := by unfold foundB; rw [hcv, decide_eq_false q]; rfl
        have sv : stepV n es ins lab later layer S' (v : Int) = (S'.1.set v X, S'.2.set v layer) := by
          unfold stepV
          rw [if_neg q, hcv]
          simp
        refine ⟨_, s, .inl (x_iteT t (x_set e10 (Nat.le_of_ble_eq_true rfl) (x_iteT ((t2 rfl).trans (by rw [decide_eq_true (by rw [List.length_cons]; omega)])) (x_stores (es_cons (e_idx (z := tD X) e_var e_con (idxL0 _ _)) (es_cons e_var es_nil)) ⟨rfl, by show 2 ≤ 1000; omega⟩ (st_sub (j := v) rfl e_var (by rw [List.length_map]; omega) (st_sub (j := v) rfl e_var (by rw [List.length_map]; omega) st_nil)) (x_app rfl e_var (by rw [List.length_map]; exact szt (by omega)) x_nil)) x_nil)) x_nil), rfl, .val (.int (v : Nat)), .val (.list ((X :: good).map tD)), ?_⟩
        rw [sv, app_filter fb]
        show _ = envS n es ins outs lab (S'.1.set v X, S'.2.set v layer) lu layer gb _ _ _ _
        unfold envS
        simp only [List.map_set]
        rfl
theorem m_soon {i : Nat} {s0 ss0 sd sl sr : Stmt} (g : GOk n es ins outs lab) (hn : n ≤ 10) (H : tab[i]? = some (.df (fdSoon s0 ist id))) (Hs : tab[ist]? = some (.df (fdSets ss0))) (Hd : tab[id]? = some (.df (fdDoes sd il))) (Hl : tab[il]? = some (.df (fdLOdd sl ir))) (Hr : tab[ir]? = some (.df (fdNear sr))) :
    run gl tab (k + 4) i [gD n es ins outs lab] st = .ok (.list [.tuple ((soonest n es ins outs lab).2.1.map tD), .tuple ((soonest n es ins outs lab).2.2.map .int), .tuple ((heldL n (soonest n es ins outs lab).1).map .int)]) st := by
  refine r_ret H rfl ?_
  have T : ∀ s5 s6 s7 s8 s9 s10 s11, ∀ ρ : Eng.Env, ρ = [.val (gD n es ins outs lab), .emp, .emp, .emp, .emp, s5, s6, s7, s8, s9, s10, s11] → execs (run gl tab (k + 3)) gl (bSoon ist id) ρ st = .ok (.ret (.list [.tuple ((soonest n es ins outs lab).2.1.map tD), .tuple ((soonest n es ins outs lab).2.2.map .int), .tuple ((heldL n (soonest n es ins outs lab).1).map .int)])) st := fun s5 s6 s7 s8 s9 s10 s11 ρ hρ => by
    subst hρ
    refine x_set (d := .int n) (e_idx (y := .int 0) e_var e_con (idxT0 _ _)) (Nat.le_of_ble_eq_true rfl) ?_
    refine x_set (e_call (ea_cons e_var ea_nil) (m_sets (k := k + 2) Hs hn)) (Nat.le_of_ble_eq_true rfl) ?_
    refine x_setO (ds := List.replicate n (tD [])) (e_bin (e_lst (es_cons (e_tup es_nil (Nat.zero_le _)) es_nil) (szl (by show 1 ≤ 1000000; omega))) e_var (mulL (by omega))) (Nat.le_of_ble_eq_true rfl) ?_
    refine x_setO (ds := List.replicate n (.int 0)) (e_bin (e_lst (es_cons e_con es_nil) (szl (by show 1 ≤ 1000000; omega))) e_var (mulL (by omega))) (Nat.le_of_ble_eq_true rfl) ?_
    refine x_set (e_bi (e_idx (x := gD n es ins outs lab) (y := .int 3) (z := .tuple (outs.map .int)) e_var e_con (idxT (i := 3) rfl)) rfl) (Nat.le_of_ble_eq_true rfl) ?_
    refine x_set e_con (Nat.le_of_ble_eq_true rfl) (x_set e_con (Nat.le_of_ble_eq_true rfl) ?_)
    refine x_whlR (m := n - outs.length + 1)
      (fun m ρ s => s = st ∧ ∃ (later lu : List Int) (layer : Int) (S : SL) (gb : Bool) (s8 s9 s10 : Slot), ρ = envS n es ins outs lab S lu layer gb s8 s9 s10 s11 ∧ VS n later ∧ (∀ x, x ∈ lu ↔ x ∈ later) ∧ lu.length = later.length ∧ S.1.length = n ∧ S.2.length = n ∧
        ((gb = true ∧ m = n - later.length + 1 ∧ soon n es ins lab (n - later.length) later layer S = soonest n es ins outs lab) ∨ (gb = false ∧ m = 0 ∧ (later, S) = soonest n es ins outs lab)))
      (fun ρ s => s = st ∧ ∃ (lu : List Int) (layer : Int) (gb : Bool) (s8 s9 s10 : Slot), ρ = envS n es ins outs lab (soonest n es ins outs lab).2 lu layer gb s8 s9 s10 s11 ∧ ∀ x, x ∈ lu ↔ x ∈ (soonest n es ins outs lab).1)
      (fun _ _ => False) (Nat.lt_of_le_of_lt (show n - outs.length + 1 ≤ 25 by omega) (by decide))
      ⟨rfl, outs, outs, 0, (List.replicate n [], List.replicate n 0), true, s8, s9, s10, ?_, g.vo, fun _ => Iff.rfl, rfl, List.length_replicate, List.length_replicate, .inl ⟨rfl, rfl, soon_more _ _ _ _ _ (Nat.le_refl _) (Nat.sub_le _ _)⟩⟩ (fun m ρ s h => ?_) (fun ρ' st' h => ?_) (fun d st' h => h.elim)
    · unfold envS
      simp only [List.map_replicate]
      rfl
    · obtain ⟨rfl, later, lu, layer, S, gb, s8, s9, s10, rfl, hl, hsame, hlen, h1, h2, hc⟩ := h
      have hll := hl.len
      have t1 : ev (run gl tab (k + 3)) gl (envS n es ins outs lab S lu layer gb s8 s9 s10 s11) false (.var 7) s = .ok (.bool gb) s := e_var
      have t2 : ev (run gl tab (k + 3)) gl (envS n es ins outs lab S lu layer gb s8 s9 s10 s11) false (.cmp .lt (.bi .len (.var 5)) (.var 1)) s = .ok (.bool (decide ((later.length : Int) < (n : Int)))) s :=
        e_cmp (e_bi (z := .int (later.length : Nat)) e_var (by simp only [biD, List.length_map, hlen])) e_var (c_lt _ _)
      rcases hc with ⟨rfl, hm, hres⟩ | ⟨rfl, hm, hres⟩
      · by_cases q : later.length < n
        · refine .inr ⟨s, t_of (e_and t1 (t2.trans (by rw [decide_eq_true (by omega)]))), .inl ?_⟩
          obtain ⟨s9', s10', hX⟩ := m_layerS (k := k) (st := s) g hn Hd Hl Hr hsame (layer := layer + 1) h1 h2 (gb := true) (s9 := s9) (s10 := s10) (s11 := s11) (ins := ins) (outs := outs) (es := es) (lab := lab)
          obtain ⟨m', hm'⟩ : ∃ m', n - later.length = m' + 1 := ⟨n - later.length - 1, by omega⟩
          rw [hm'] at hres
          have fl := fold_len (n := n) (es := es) (ins := ins) (lab := lab) (later := later) (layer := layer + 1) (rng n) (S := S)
          have hflen : (foundL n es ins lab later).length ≤ n := Nat.le_trans (len_f _ _) (by rw [rng_len]; exact Nat.le_refl _)
          have hbody : execs (run gl tab (k + 3)) gl (.cons (.set 6 (.bin .add (.var 6) (.const (.int 1)))) (.cons (.setO 8 (.lst .nil)) (.cons (.for (.name 9) (.rng1 (.var 1))
 (.cons (.ite (.cmp .nin (.var 9) (.var 5))
 (.cons (.set 10 (.comp [("some", 11)] (.name 11) (.seq (.var 2)) (.some (.call id (.cons (.var 0) (.cons (.var 9) (.cons (.var 11) (.cons (.var 5) .nil)))))) (.var 11))) (.cons (.ite (.cmp .gt (.bi .len (.var 10)) (.const (.int 0)))
 (.cons (.stores [.sub 3 (.var 9), .sub 4 (.var 9)] (.cons (.idx (.var 10) (.const (.int 0))) (.cons (.var 6) .nil))) (.cons (.app 8 (.var 9)) .nil))
 .nil)
 .nil))
 .nil)
 .nil))
 (.cons (.set 5 (.bin .add (.var 5) (.bor 8))) (.cons (.set 7 (.cmp .gt (.bi .len (.bor 8)) (.const (.int 0)))) .nil))))) (envS n es ins outs lab S lu layer true s8 s9 s10 s11) s = .ok (.nx (envS n es ins outs lab (stepL n es ins lab later (layer + 1) S) (lu ++ foundL n es ins lab later) (layer + 1) (decide (0 < ((foundL n es ins lab later).length : Int))) (.lst ((foundL n es ins lab later).map .int)) s9' s10' s11)) s := by
            refine x_set (d := .int (layer + 1)) (e_bin e_var e_con rfl) (Nat.le_of_ble_eq_true rfl) (x_setO (ds := []) (e_lst es_nil (Nat.zero_le _)) (Nat.le_of_ble_eq_true rfl) ((hX _).trans ?_))
            refine x_set (d := .list ((lu ++ foundL n es ins lab later).map .int)) (e_bin e_var (e_bor rfl) ?_) (Nat.le_of_ble_eq_true rfl) (x_set (e_cmp (e_bi (z := .int ((foundL n es ins lab later).length : Nat)) (e_bor rfl) (by simp only [biD, List.length_map])) e_con (c_gt _ _)) (Nat.le_of_ble_eq_true rfl) x_nil)
            rw [addB, addD_lst, List.map_append]
            rw [List.length_map, List.length_map]
            exact szl (by omega)
          have hsame2 : ∀ x, x ∈ lu ++ foundL n es ins lab later ↔ x ∈ isort (later ++ foundL n es ins lab later) := fun x => by
            rw [mem_isort, List.mem_append, List.mem_append, hsame]
          have hlen2 : (lu ++ foundL n es ins lab later).length = (isort (later ++ foundL n es ins lab later)).length := by rw [isort_len, List.length_append, List.length_append, hlen]
          by_cases qf : foundL n es ins lab later = []
          · have er : soonest n es ins outs lab = (later, S) := by
              rw [← hres]
              unfold soon
              rw [if_pos q, if_pos qf]
            have hid := step_none (layer := layer + 1) (S := S) qf
            refine ⟨_, s, 0, hbody, by omega, rfl, later, lu, layer + 1, S, false, .lst [], s9', s10', ?_, hl, hsame, hlen, h1, h2, .inr ⟨rfl, rfl, er.symm⟩⟩
            rw [hid, qf, List.append_nil]
            rfl
          · have hpos : 0 < (foundL n es ins lab later).length := List.length_pos_iff.mpr qf
            have hnlen : (isort (later ++ foundL n es ins lab later)).length = later.length + (foundL n es ins lab later).length := by rw [isort_len, List.length_append]
            refine ⟨_, s, n - (isort (later ++ foundL n es ins lab later)).length + 1, hbody, by omega, rfl, isort (later ++ foundL n es ins lab later), lu ++ foundL n es ins lab later, layer + 1, stepL n es ins lab later (layer + 1) S, true, .lst ((foundL n es ins lab later).map .int), s9', s10', ?_, vs_next hl, hsame2, hlen2, fl.1.trans h1, fl.2.trans h2, .inl ⟨rfl, rfl, ?_⟩⟩
            · rw [decide_eq_true (by omega)]
            · rw [← hres]
              conv => rhs; unfold soon
              rw [if_pos q, if_neg qf]
              exact soon_more _ _ _ _ _ (Nat.le_refl _) (by omega)
        · refine .inl ⟨s, t_of (e_and t1 (t2.trans (by rw [decide_eq_false (by omega)]))), rfl, ?_⟩
          have er : soonest n es ins outs lab = (later, S) := by
            rw [← hres, show n - later.length = 0 by omega]
            rfl
          rw [er]
          exact ⟨lu, layer, true, s8, s9, s10, rfl, hsame⟩
      · refine .inl ⟨s, t_of (e_andF t1), rfl, ?_⟩
        rw [← hres]
        exact ⟨lu, layer, false, s8, s9, s10, rfl, hsame⟩
    · obtain ⟨rfl, lu, layer, gb, s8, s9, s10, rfl, hsame⟩ := h
      have ec := e_comp (cl := run gl tab (k + 3)) (gl := gl) (st := st') (o := true) (ρ := envS n es ins outs lab (soonest n es ins outs lab).2 lu layer gb s8 s9 s10 s11) (own := [("vertex", 9)]) (tg := .name 9) (it := .rng1 (.var 1)) (co := .some (.cmp .nin (.var 9) (.var 5))) (e := .var 9)
        (φ := .int) (xs := rng n) (fun v => !decide (v ∈ lu)) .int (evIt_rng1 (n := n) e_var (low (by omega))) (fun x _ => ⟨envS n es ins outs lab (soonest n es ins outs lab).2 lu layer gb s8 (.val (.int x)) s10 s11, rfl, i_some (e_cmp e_var e_var (c_ninL _ _)), fun _ => e_var⟩) (by rw [rng_len]; exact szl (by omega))
      have hh : (rng n).filter (fun v => !decide (v ∈ lu)) = heldL n (soonest n es ins outs lab).1 := List.filter_congr fun x _ => by simp only [hsame]
      rw [hh] at ec
      exact x_ret (e_lst (es_cons (e_bi e_bor rfl) (es_cons (e_bi e_bor rfl) (es_cons (e_bi ec rfl) es_nil))) (szl (by show 3 ≤ 1000000; omega)))
  exact T _ _ _ _ _ _ _ _ rfl
end
end Gra

end
section
set_option Elab.async false
set_option linter.all false
set_option maxRecDepth 100000
set_option maxHeartbeats 8000000
set_option autoImplicit false
/-! GraM: rows of vertices side by side, as the laws draw them. -/
namespace Gra
open PySem PySem.Spec PyProof.Rows L2 Eng
def bPath (dr : Nat) : Ss :=
 (.cons (.set 2 (.bin .add (.const (.int 1)) (.call dr (.cons (.var 0) (.cons (.const (.int 3)) .nil))))) (.cons (.set 3 (.bin .add (.const (.int 1)) (.call dr (.cons (.var 0) (.cons (.bin .fdiv (.var 1) (.var 2)) .nil))))) (.cons (.setO 4 (.lst .nil)) (.cons (.for (.name 5) (.rng1 (.var 2))
 (.cons (.for (.name 11) (.rng1 (.bin .sub (.var 3) (.const (.int 1))))
 (.cons (.app 4 (.tup (.cons (.bin .add (.bin .mul (.var 11) (.var 2)) (.var 5)) (.cons (.bin .add (.bin .add (.bin .mul (.var 11) (.var 2)) (.var 2)) (.var 5)) .nil)))) .nil))
 .nil))
 (.cons (.for (.name 6) (.rng1 (.call dr (.cons (.var 0) (.cons (.const (.int 4)) .nil))))
 (.cons (.set 11 (.call dr (.cons (.var 0) (.cons (.var 3) .nil)))) (.cons (.par 12 13 (.call dr (.cons (.var 0) (.cons (.var 2) .nil))) (.call dr (.cons (.var 0) (.cons (.var 2) .nil)))) (.cons (.ite (.cmp .lt (.var 12) (.var 13))
 (.cons (.app 4 (.tup (.cons (.bin .add (.bin .mul (.var 11) (.var 2)) (.var 12)) (.cons (.bin .add (.bin .mul (.var 11) (.var 2)) (.var 13)) .nil)))) .nil)
 .nil)
 .nil))))
 (.cons (.set 7 (.bin .mul (.var 2) (.var 3))) (.cons (.set 8 (.bi .tuple (.comp [("wire", 5)] (.name 5) (.rng3 (.bin .sub (.var 2) (.const (.int 1))) (.neg (.const (.int 1))) (.neg (.const (.int 1)))) .none (.bin .sub (.bin .sub (.var 7) (.const (.int 1))) (.var 5))))) (.cons (.set 9 (.slice (.bi .tuple (.comp [("wire", 5)] (.name 5) (.rng1 (.var 2)) .none (.var 5))) .none (.some (.call dr (.cons (.var 0) (.cons (.bin .add (.var 2) (.const (.int 1))) .nil)))))) (.cons (.set 10 (.comp [("vertex", 14)] (.name 14) (.rng1 (.var 7)) .none (.ite (.cmp .inn (.var 14) (.var 8)) (.const (.str "")) (.const (.str "XY"))))) (.cons (.ret (.tup (.cons (.var 7) (.cons (.bi .tuple (.sset (.bor 4))) (.cons (.var 9) (.cons (.var 8) (.cons (.bi .tuple (.var 10)) .nil))))))) .nil))))))))))
def fdPath (s : Stmt) (dr : Nat) : FD := { name := "_law_path", ps := ["state", "most"], N := ["state", "most", "wires", "long", "edges", "wire", "k", "many", "outputs", "inputs", "planes", "at", "one", "other", "vertex"], st := s, body := bPath dr }
/-! ### sets of pairs -/
theorem pairsD_of : ∀ {ps : List (Int × Int)}, (∀ p ∈ ps, 0 ≤ p.1 ∧ p.1 < 64 ∧ 0 ≤ p.2 ∧ p.2 < 64) → pairsD (ps.map edgeD) = some ps
  | [], _ => rfl
  | p :: ps, h => by
    have ih := pairsD_of (ps := ps) fun q hq => h q (List.mem_cons_of_mem _ hq)
    show (if _ then _ else _) = _
    rw [if_pos (h p (List.mem_cons_self ..)), ih]
    rfl
theorem ltE_of {p q : Int × Int} (h : ltP p q = true) : ltE p q = true := by
  unfold Eng.ltP at h
  rw [decide_eq_true_eq] at h
  unfold ltE
  rw [HT.lexLt_cons]
  rcases h with h | ⟨h1, h2⟩
  · rw [if_neg (by omega)]
    exact decide_eq_true h
  · rw [if_pos h1, HT.lexLt_cons, if_neg (by omega)]
    exact decide_eq_true h2
theorem insP_len (p : Int × Int) : ∀ l : List (Int × Int), (insP p l).length ≤ l.length + 1
  | [] => Nat.le_refl _
  | q :: l => by
    unfold insP
    split
    · simp
    · split
      · simp
      · have := insP_len p l
        simp only [List.length_cons]
        omega
theorem ssetP_len : ∀ l : List (Int × Int), (ssetP l).length ≤ l.length
  | [] => Nat.le_refl _
  | p :: l => by
    have h1 := insP_len p (ssetP l)
    have h2 := ssetP_len l
    show (insP p (ssetP l)).length ≤ l.length + 1
    omega
section
variable {gl : List D} {tab : List Ent} {k : Nat} {st : Sta} {cl : Calls} {ρ : Eng.Env}
theorem e_ssetP {a : E} {ps : List (Int × Int)} {o : Bool} {st1 : Sta} (h : ev cl gl ρ true a st = .ok (.list (ps.map edgeD)) st1) (hp : ∀ p ∈ ps, 0 ≤ p.1 ∧ p.1 < 64 ∧ 0 ≤ p.2 ∧ p.2 < 64) (hl : ps.length < 64) : ev cl gl ρ o (.sset a) st = .ok (.list ((ssetP ps).map edgeD)) st1 := by
  simp only [ev, h, R.bind_ok, ssetD, pairsD_of hp, Option.bind_some, hl, if_true, R.of_some]
  rfl
theorem e_takeD {a b : E} {xs : List D} {j : Nat} {o : Bool} {st1 st2 : Sta} (h : ev cl gl ρ true a st = .ok (.tuple xs) st1) (hk : ev cl gl ρ false b st1 = .ok (.int (j : Nat)) st2) : ev cl gl ρ o (.slice a .none (.some b)) st = .ok (.tuple (xs.take j)) st2 := by
  simp only [ev, h, R.bind_ok, evPart, hk, sliceD, R.of_some, cut_take]
/-- at * wires + wire -/
theorem e_at {i j l : Nat} {a b c : Nat} {o : Bool} (hi : ρ[i]? = some (.val (.int (a : Nat)))) (hj : ρ[j]? = some (.val (.int (b : Nat)))) (hl : ρ[l]? = some (.val (.int (c : Nat)))) (ha : a < 1000) (hb : b < 1000) : ev cl gl ρ o (.bin .add (.bin .mul (.var i) (.var j)) (.var l)) st = .ok (.int ((a * b + c : Nat) : Int)) st := by
  have h100 : 1000 < 2 ^ 100 := by decide
  exact e_bin (e_bin (e_var hi) (e_var hj) (mulP (by omega) (by omega))) (e_var hl) (addN _ _)
def PairsOk (m : Nat) (ps : List (Int × Int)) : Prop := ∀ p ∈ ps, 0 ≤ p.1 ∧ p.1 < p.2 ∧ p.2 < (m : Int)
theorem PairsOk.snoc {m : Nat} {ps : List (Int × Int)} (h : PairsOk m ps) {a b : Nat} (h1 : a < b) (h2 : b < m) : PairsOk m (ps ++ [((a : Int), (b : Int))]) := fun p hp => by
  rcases List.mem_append.mp hp with z | z
  · exact h p z
  · rw [List.mem_singleton.mp z]
    simp only
    omega
def envP (m : Int) (ws lo : Nat) (es : List (Int × Int)) (s5 s6 s7 s8 s9 s10 s11 s12 s13 s14 : Slot) : Eng.Env := [.val stTok, .val (.int m), .val (.int ws), .val (.int lo), .lst (es.map edgeD), s5, s6, s7, s8, s9, s10, s11, s12, s13, s14]
theorem path_inner {dr : Nat} {m : Int} {ws lo w : Nat} {es : List (Int × Int)} (hw : w < ws) (hws : ws ≤ 3) (hlo : lo ≤ 24) (h1 : 1 ≤ lo) (hP : PairsOk (ws * lo) es) (hl : es.length ≤ 90) {s6 s7 s8 s9 s10 s11 s12 s13 s14 : Slot} :
    ∃ es' s11', PairsOk (ws * lo) es' ∧ es'.length = es.length + (lo - 1) ∧ execs (run gl tab (k + 1)) gl (.cons (.for (.name 11) (.rng1 (.bin .sub (.var 3) (.const (.int 1))))
 (.cons (.app 4 (.tup (.cons (.bin .add (.bin .mul (.var 11) (.var 2)) (.var 5)) (.cons (.bin .add (.bin .add (.bin .mul (.var 11) (.var 2)) (.var 2)) (.var 5)) .nil)))) .nil))
 .nil) (envP m ws lo es (.val (.int w)) s6 s7 s8 s9 s10 s11 s12 s13 s14) st = .ok (.nx (envP m ws lo es' (.val (.int w)) s6 s7 s8 s9 s10 s11' s12 s13 s14)) st := by
  obtain ⟨ρ', st', h, rfl, es', s11', rfl, hP', hlen⟩ := for_map (tg := .name 11) (φ := .int) (xs := rng (lo - 1)) (st := st) (ρ := envP m ws lo es (.val (.int w)) s6 s7 s8 s9 s10 s11 s12 s13 s14)
    (body := execs (run gl tab (k + 1)) gl (.cons (.app 4 (.tup (.cons (.bin .add (.bin .mul (.var 11) (.var 2)) (.var 5)) (.cons (.bin .add (.bin .add (.bin .mul (.var 11) (.var 2)) (.var 2)) (.var 5)) .nil)))) .nil))
    (fun ys _ ρ s => s = st ∧ ∃ (es' : List (Int × Int)) (s11 : Slot), ρ = envP m ws lo es' (.val (.int w)) s6 s7 s8 s9 s10 s11 s12 s13 s14 ∧ PairsOk (ws * lo) es' ∧ es'.length = es.length + ys.length)
    ⟨rfl, es, s11, rfl, hP, rfl⟩ (fun ys x zs ρ s e h => by
      obtain ⟨rfl, es', s11, rfl, hP', hlen⟩ := h
      obtain ⟨rfl, hv⟩ := rng_at e
      generalize hv0 : ys.length = v at hv
      have hbnd : v * ws + ws + w < ws * lo := by
        have : (v + 2) * ws ≤ lo * ws := Nat.mul_le_mul_right ws (by omega)
        rw [Nat.add_mul, Nat.mul_comm lo ws] at this
        omega
      refine ⟨envP m ws lo es' (.val (.int w)) s6 s7 s8 s9 s10 (.val (.int (v : Nat))) s12 s13 s14, rfl, envP m ws lo (es' ++ [(((v * ws + w : Nat) : Int), ((v * ws + ws + w : Nat) : Int))]) (.val (.int w)) s6 s7 s8 s9 s10 (.val (.int (v : Nat))) s12 s13 s14, s, .inl ?_, rfl, _, _, rfl, hP'.snoc (by omega) hbnd, by rw [List.length_append, hlen, List.length_append, hv0]; rfl⟩
      have h100 : 1000 < 2 ^ 100 := by decide
      refine x_app rfl (e_tup (es_cons (e_at rfl rfl rfl (by omega) (by omega)) (es_cons (e_bin (e_bin (e_bin (e_var rfl) (e_var rfl) (mulP (a := v) (b := ws) (by omega) (by omega))) (e_var rfl) (addN _ _)) (e_var rfl) (addN _ _)) es_nil)) (szl (by show 2 ≤ 1000000; omega))) (by rw [List.length_map]; exact szt (by omega)) ?_
      show execs _ gl .nil (envP m ws lo es' _ _ _ _ _ _ _ _ _ _ |>.set 4 _) _ = _
      unfold envP
      rw [List.map_append]
      exact x_nil)
  refine ⟨es', s11', hP', by rw [hlen, rng_len], x_for (evIt_rng1 (n := lo - 1) (e_bin (z := .int ((lo - 1 : Nat) : Int)) e_var e_con ?_) (low (by omega))) h x_nil⟩
  show some (PyData.int ((lo : Int) - 1)) = _
  rw [show ((lo : Int) - 1) = ((lo - 1 : Nat) : Int) by omega]
theorem m_path {ig dr : Nat} {s0 : Stmt} {m : Nat} (HD : tab[dr]? = some (.pr "_law_draw" 2 drawS)) (HG : tab[ig]? = some (.df (fdPath s0 dr))) (hm : 3 ≤ m) (hm2 : m ≤ 24) (hg : Good st) :
    ∃ (n : Nat) (es : List (Int × Int)) (ins outs : List Int) (lab : List (Fin 4)) (st' : Sta), Good st' ∧ n ≤ m ∧ Right false n es ins outs lab ∧ run gl tab (k + 2) ig [stTok, .int m] st = .ok (gD n es ins outs lab) st' := by
  obtain ⟨i0, st0, hd0, hi0, g0⟩ := d_ok (gl := gl) (k := k) HD hg (m := 3) (by decide) (by decide)
  obtain ⟨ws, hws⟩ : ∃ ws, ws = 1 + i0 := ⟨_, rfl⟩
  have hw1 : 1 ≤ ws ∧ ws ≤ 3 := by omega
  have hdiv : 1 ≤ m / ws := Nat.div_pos (by omega) (by omega)
  have hdiv2 : m / ws ≤ m := Nat.div_le_self ..
  obtain ⟨i1, st1, hd1, hi1, g1⟩ := d_ok (gl := gl) (k := k) HD g0 (m := ((m / ws : Nat) : Int)) (by omega) (by omega)
  obtain ⟨lo, hlo⟩ : ∃ lo, lo = 1 + i1 := ⟨_, rfl⟩
  have hlo1 : 1 ≤ lo ∧ lo ≤ m / ws := by omega
  have hn : ws * lo ≤ m := Nat.le_trans (Nat.mul_le_mul_left ws hlo1.2) (Nat.mul_div_le m ws)
  have hn1 : 1 ≤ ws * lo := Nat.mul_pos (by omega) (by omega)
  have hwn : ws ≤ ws * lo := Nat.le_mul_of_pos_right ws (by omega)
  -- the rows
  obtain ⟨ρ2, st2, h2, rfl, es2, s5, s11, rfl, hP2, hl2⟩ := for_map (tg := .name 5) (φ := .int) (xs := rng ws) (st := st1) (ρ := envP m ws lo [] .emp .emp .emp .emp .emp .emp .emp .emp .emp .emp)
    (body := execs (run gl tab (k + 1)) gl (.cons (.for (.name 11) (.rng1 (.bin .sub (.var 3) (.const (.int 1))))
 (.cons (.app 4 (.tup (.cons (.bin .add (.bin .mul (.var 11) (.var 2)) (.var 5)) (.cons (.bin .add (.bin .add (.bin .mul (.var 11) (.var 2)) (.var 2)) (.var 5)) .nil)))) .nil))
 .nil))
    (fun ys _ ρ s => s = st1 ∧ ∃ (es : List (Int × Int)) (s5 s11 : Slot), ρ = envP m ws lo es s5 .emp .emp .emp .emp .emp s11 .emp .emp .emp ∧ PairsOk (ws * lo) es ∧ es.length = ys.length * (lo - 1))
    ⟨rfl, [], .emp, .emp, rfl, fun _ h => (by cases h), by simp⟩ (fun ys x zs ρ s e h => by
      obtain ⟨rfl, es, s5, s11, rfl, hP, hl⟩ := h
      obtain ⟨rfl, hv⟩ := rng_at e
      generalize hv0 : ys.length = v at hv hl
      have hb : v * (lo - 1) ≤ 3 * 24 := Nat.mul_le_mul (by omega) (by omega)
      obtain ⟨es', s11', hP', hl', hX⟩ := path_inner (gl := gl) (tab := tab) (k := k) (st := s) (dr := dr) (m := m) (ws := ws) (lo := lo) (w := v) hv hw1.2 (by omega) hlo1.1 hP (by omega) (s6 := .emp) (s7 := .emp) (s8 := .emp) (s9 := .emp) (s10 := .emp) (s11 := s11) (s12 := .emp) (s13 := .emp) (s14 := .emp)
      exact ⟨envP m ws lo es (.val (.int (v : Nat))) .emp .emp .emp .emp .emp s11 .emp .emp .emp, rfl, _, s, .inl hX, rfl, es', _, s11', rfl, hP', by rw [hl', hl, List.length_append, hv0, List.length_singleton, Nat.add_mul, Nat.one_mul]⟩)
  rw [rng_len] at hl2
  have hl2b : es2.length ≤ m := by
    rw [hl2]
    exact Nat.le_trans (Nat.mul_le_mul_left ws (Nat.sub_le _ _)) hn
  -- edges across
  obtain ⟨i3, st3, hd3, hi3, g3⟩ := d_ok (gl := gl) (k := k) HD g1 (m := 4) (by decide) (by decide)
  obtain ⟨ρ4, st4, h4, g4, es4, s6, t11, t12, t13, rfl, hP4, hl4⟩ := for_map (tg := .name 6) (φ := .int) (xs := rng i3) (st := st3) (ρ := envP m ws lo es2 s5 .emp .emp .emp .emp .emp s11 .emp .emp .emp)
    (body := execs (run gl tab (k + 1)) gl (.cons (.set 11 (.call dr (.cons (.var 0) (.cons (.var 3) .nil)))) (.cons (.par 12 13 (.call dr (.cons (.var 0) (.cons (.var 2) .nil))) (.call dr (.cons (.var 0) (.cons (.var 2) .nil)))) (.cons (.ite (.cmp .lt (.var 12) (.var 13))
 (.cons (.app 4 (.tup (.cons (.bin .add (.bin .mul (.var 11) (.var 2)) (.var 12)) (.cons (.bin .add (.bin .mul (.var 11) (.var 2)) (.var 13)) .nil)))) .nil)
 .nil)
 .nil))))
    (fun ys _ ρ s => Good s ∧ ∃ (es : List (Int × Int)) (s6 s11 s12 s13 : Slot), ρ = envP m ws lo es s5 s6 .emp .emp .emp .emp s11 s12 s13 .emp ∧ PairsOk (ws * lo) es ∧ es.length ≤ es2.length + ys.length)
    ⟨g3, es2, .emp, s11, .emp, .emp, rfl, hP2, Nat.le_refl _⟩ (fun ys x zs ρ s e h => by
      obtain ⟨g, es, s6, s11, s12, s13, rfl, hP, hl⟩ := h
      obtain ⟨rfl, hv⟩ := rng_at e
      obtain ⟨a, sa, hda, hia, ga⟩ := d_ok (gl := gl) (k := k) HD g (m := (lo : Nat)) (by omega) (by omega)
      obtain ⟨b, sb, hdb, hib, gb⟩ := d_ok (gl := gl) (k := k) HD ga (m := (ws : Nat)) (by omega) (by omega)
      obtain ⟨c, sc, hdc, hic, gc⟩ := d_ok (gl := gl) (k := k) HD gb (m := (ws : Nat)) (by omega) (by omega)
      have hbnd : a * ws + c < ws * lo := by
        have : (a + 1) * ws ≤ lo * ws := Nat.mul_le_mul_right ws (by omega)
        rw [Nat.add_mul, Nat.mul_comm lo ws] at this
        omega
      refine ⟨envP m ws lo es s5 (.val (.int (ys.length : Nat))) .emp .emp .emp .emp s11 s12 s13 .emp, rfl, ?_⟩
      have pre : ∀ {r : R Fl}, execs (run gl tab (k + 1)) gl (.cons (.ite (.cmp .lt (.var 12) (.var 13)) (.cons (.app 4 (.tup (.cons (.bin .add (.bin .mul (.var 11) (.var 2)) (.var 12)) (.cons (.bin .add (.bin .mul (.var 11) (.var 2)) (.var 13)) .nil)))) .nil) .nil) .nil) (envP m ws lo es s5 (.val (.int (ys.length : Nat))) .emp .emp .emp .emp (.val (.int (a : Nat))) (.val (.int (b : Nat))) (.val (.int (c : Nat))) .emp) sc = r →
          execs (run gl tab (k + 1)) gl (.cons (.set 11 (.call dr (.cons (.var 0) (.cons (.var 3) .nil)))) (.cons (.par 12 13 (.call dr (.cons (.var 0) (.cons (.var 2) .nil))) (.call dr (.cons (.var 0) (.cons (.var 2) .nil)))) (.cons (.ite (.cmp .lt (.var 12) (.var 13))
 (.cons (.app 4 (.tup (.cons (.bin .add (.bin .mul (.var 11) (.var 2)) (.var 12)) (.cons (.bin .add (.bin .mul (.var 11) (.var 2)) (.var 13)) .nil)))) .nil)
 .nil)
 .nil))) (envP m ws lo es s5 (.val (.int (ys.length : Nat))) .emp .emp .emp .emp s11 s12 s13 .emp) s = r := fun h =>
        x_set (e_call (ea_cons e_var (ea_cons e_var ea_nil)) hda) (Nat.le_of_ble_eq_true rfl) (x_par (e_call (ea_cons e_var (ea_cons e_var ea_nil)) hdb) (e_call (ea_cons e_var (ea_cons e_var ea_nil)) hdc) ⟨Nat.le_of_ble_eq_true rfl, Nat.le_of_ble_eq_true rfl⟩ h)
      have t : ev (run gl tab (k + 1)) gl (envP m ws lo es s5 (.val (.int (ys.length : Nat))) .emp .emp .emp .emp (.val (.int (a : Nat))) (.val (.int (b : Nat))) (.val (.int (c : Nat))) .emp) false (.cmp .lt (.var 12) (.var 13)) sc = .ok (.bool (decide ((b : Int) < (c : Int)))) sc := e_cmp e_var e_var (c_lt _ _)
      have hle : (ys ++ [((ys.length : Nat) : Int)]).length = ys.length + 1 := by simp
      by_cases q : b < c
      · refine ⟨envP m ws lo (es ++ [(((a * ws + b : Nat) : Int), ((a * ws + c : Nat) : Int))]) s5 (.val (.int (ys.length : Nat))) .emp .emp .emp .emp (.val (.int (a : Nat))) (.val (.int (b : Nat))) (.val (.int (c : Nat))) .emp, sc, .inl (pre (x_iteT (t.trans (by rw [decide_eq_true (by omega)])) (x_app rfl (e_tup (es_cons (e_at rfl rfl rfl (by omega) (by omega)) (es_cons (e_at rfl rfl rfl (by omega) (by omega)) es_nil)) (szl (by show 2 ≤ 1000000; omega))) (by rw [List.length_map]; exact szt (by omega)) x_nil) ?_)), gc, _, _, _, _, _, rfl, hP.snoc (by omega) hbnd, by rw [List.length_append, hle]; show es.length + 1 ≤ _; omega⟩
        show execs _ gl .nil (envP m ws lo es _ _ _ _ _ _ _ _ _ _ |>.set 4 _) _ = _
        unfold envP
        rw [List.map_append]
        exact x_nil
      · exact ⟨_, sc, .inl (pre (x_skip (t.trans (by rw [decide_eq_false (by omega)])) x_nil)), gc, es, _, _, _, _, rfl, hP, by rw [hle]; omega⟩)
  rw [rng_len] at hl4
  obtain ⟨i5, st5, hd5, hi5, g5⟩ := d_ok (gl := gl) (k := k) HD g4 (m := ((ws + 1 : Nat) : Int)) (by omega) (by omega)
  generalize hN : ws * lo = n at hn hn1 hwn hP4
  -- outputs
  have ho := e_comp (cl := run gl tab (k + 1)) (gl := gl) (st := st4) (o := true) (ρ := envP m ws lo es4 s5 s6 (.val (.int n)) .emp .emp .emp t11 t12 t13 .emp) (own := [("wire", 5)]) (tg := .name 5) (it := .rng3 (.bin .sub (.var 2) (.const (.int 1))) (.neg (.const (.int 1))) (.neg (.const (.int 1)))) (co := .none) (e := .bin .sub (.bin .sub (.var 7) (.const (.int 1))) (.var 5))
    (φ := fun i : Int => .int ((ws : Int) - 1 - i)) (xs := rng ws) (fun _ => true) (fun i => .int ((n : Int) - 1 - ((ws : Int) - 1 - i))) (evIt_down (e_bin e_var e_con subD) (by omega)) (fun x _ => ⟨envP m ws lo es4 (.val (.int ((ws : Int) - 1 - x))) s6 (.val (.int n)) .emp .emp .emp t11 t12 t13 .emp, rfl, i_none, fun _ => e_bin (e_bin e_var e_con subD) e_var subD⟩) (by rw [rng_len]; exact szl (by omega))
  rw [List.filter_eq_self.mpr (fun _ _ => rfl), map_map (rng ws) fun i => (n : Int) - 1 - ((ws : Int) - 1 - i)] at ho
  generalize houts : (rng ws).map (fun i => (n : Int) - 1 - ((ws : Int) - 1 - i)) = outs at ho
  have vo : VS n outs := by
    rw [← houts]
    refine ⟨List.pairwise_map.mpr ((ss_rng ws).imp fun h => by omega), fun x hx => ?_⟩
    obtain ⟨i, hi, rfl⟩ := List.mem_map.mp hx
    have := mem_rng.mp hi
    exact mem_rng.mpr (by omega)
  have hol : outs.length ≤ n := vo.len
  -- inputs
  have hi := e_comp (cl := run gl tab (k + 1)) (gl := gl) (st := st4) (o := true) (ρ := envP m ws lo es4 s5 s6 (.val (.int n)) (.val (.tuple (outs.map .int))) .emp .emp t11 t12 t13 .emp) (own := [("wire", 5)]) (tg := .name 5) (it := .rng1 (.var 2)) (co := .none) (e := .var 5)
    (φ := .int) (xs := rng ws) (fun _ => true) .int (evIt_rng1 (n := ws) e_var (low (by omega))) (fun x _ => ⟨envP m ws lo es4 (.val (.int x)) s6 (.val (.int n)) (.val (.tuple (outs.map .int))) .emp .emp t11 t12 t13 .emp, rfl, i_none, fun _ => e_var⟩) (by rw [rng_len]; exact szl (by omega))
  rw [List.filter_eq_self.mpr (fun _ _ => rfl)] at hi
  have vi : VS n ((rng ws).take i5) := ⟨(ss_rng ws).sub (List.take_sublist ..), fun x hx => by
    have := mem_rng.mp ((List.take_sublist ..).subset hx)
    exact mem_rng.mpr (by omega)⟩
  -- planes
  have hp := e_comp (cl := run gl tab (k + 1)) (gl := gl) (st := st5) (o := false) (ρ := envP m ws lo es4 s5 s6 (.val (.int n)) (.val (.tuple (outs.map .int))) (.val (.tuple (((rng ws).take i5).map .int))) .emp t11 t12 t13 .emp) (own := [("vertex", 14)]) (tg := .name 14) (it := .rng1 (.var 7)) (co := .none) (e := .ite (.cmp .inn (.var 14) (.var 8)) (.const (.str "")) (.const (.str "XY")))
    (φ := .int) (xs := rng n) (fun _ => true) (fun v => wD (if v ∈ outs then 0 else 1)) (evIt_rng1 (n := n) e_var (low (by omega))) (fun x _ => ⟨envP m ws lo es4 s5 s6 (.val (.int n)) (.val (.tuple (outs.map .int))) (.val (.tuple (((rng ws).take i5).map .int))) .emp t11 t12 t13 (.val (.int x)), rfl, i_none, fun _ => by
      by_cases q : x ∈ outs
      · rw [if_pos q]
        exact e_iteT (e_cmp e_var e_var ((c_inn _ _).trans (by rw [decide_eq_true q]))) e_con
      · rw [if_neg q]
        exact e_iteF (e_cmp e_var e_var ((c_inn _ _).trans (by rw [decide_eq_false q]))) e_con⟩) (by rw [rng_len]; exact szl (by omega))
  have hlabm : (rng n).map (fun v : Int => wD (if v ∈ outs then 0 else 1)) = ((rng n).map fun v : Int => if v ∈ outs then (0 : Fin 4) else 1).map wD := by rw [List.map_map]; rfl
  rw [List.filter_eq_self.mpr (fun _ _ => rfl), hlabm] at hp
  have hpe : ∀ p ∈ es4, 0 ≤ p.1 ∧ p.1 < 64 ∧ 0 ≤ p.2 ∧ p.2 < 64 := fun p h => by
    have := hP4 p h
    omega
  have hl4' : es4.length < 64 := by omega
  refine ⟨n, ssetP es4, (rng ws).take i5, outs, (rng n).map fun v : Int => if v ∈ outs then (0 : Fin 4) else 1, st5, g5, hn, ⟨hn1, (pw_ssetP es4).imp fun h => ltE_of h, fun e he => hP4 e (mem_ssetP.mp he), by have := ssetP_len es4; omega, vi, vo, by rw [List.length_map, rng_len], fun i w hw => ?_⟩, r_ret HG rfl ?_⟩
  · rw [List.getElem?_map, rng_get] at hw
    split at hw
    · cases hw
      show wOk false outs _ (i : Int) (if (i : Int) ∈ outs then (0 : Fin 4) else 1) = true
      unfold wOk
      by_cases q : (i : Int) ∈ outs
      · rw [if_pos q, if_pos q]; rfl
      · rw [if_neg q, if_neg q]
        split <;> rfl
    · cases hw
  · have h100 : 1000 < 2 ^ 100 := by decide
    refine x_set (d := .int ws) (e_bin e_con (e_call (ea_cons e_var (ea_cons e_con ea_nil)) hd0) (by rw [addB]; show some (PyData.int _) = _; rw [hws]; congr 2)) (Nat.le_of_ble_eq_true rfl) ?_
    have efd : binD .fdiv (.int (m : Int)) (.int (ws : Int)) = some (.int ((m / ws : Nat) : Int)) := by
      rw [fdivD ⟨by omega, ?_⟩]
      · rfl
      · rw [Int.natAbs_natCast]
        exact Nat.lt_of_le_of_lt (Nat.log2_le_self _) (by omega)
    refine x_set (d := .int lo) (e_bin e_con (e_call (ea_cons e_var (ea_cons (e_bin e_var e_var efd) ea_nil)) hd1) (by rw [addB]; show some (PyData.int _) = _; rw [hlo]; congr 2)) (Nat.le_of_ble_eq_true rfl) ?_
    refine x_setO (ds := ([] : List (Int × Int)).map edgeD) (e_lst es_nil (Nat.zero_le _)) (Nat.le_of_ble_eq_true rfl) ?_
    refine x_for (evIt_rng1 (n := ws) e_var (low (by omega))) h2 ?_
    refine x_for (evIt_rng1 (n := i3) (e_call (ea_cons e_var (ea_cons e_con ea_nil)) hd3) (low (by omega))) h4 ?_
    refine x_set (d := .int n) (e_bin e_var e_var ((mulP (a := ws) (b := lo) (by omega) (by omega)).trans (by rw [hN]))) (Nat.le_of_ble_eq_true rfl) ?_
    refine x_set (e_bi ho rfl) (Nat.le_of_ble_eq_true rfl) ?_
    have esl : ∀ o, ev (run gl tab (k + 1)) gl (envP m ws lo es4 s5 s6 (.val (.int n)) (.val (.tuple (outs.map .int))) .emp .emp t11 t12 t13 .emp) o (.slice (.bi .tuple (.comp [("wire", 5)] (.name 5) (.rng1 (.var 2)) .none (.var 5))) .none (.some (.call dr (.cons (.var 0) (.cons (.bin .add (.var 2) (.const (.int 1))) .nil))))) st4 = .ok (.tuple (((rng ws).take i5).map .int)) st5 := fun o => by
      have e1 := e_bi (t := .tuple) (o := true) hi rfl
      have e2 := e_call (cl := run gl tab (k + 1)) (gl := gl) (o := false) (ρ := envP m ws lo es4 s5 s6 (.val (.int n)) (.val (.tuple (outs.map .int))) .emp .emp t11 t12 t13 .emp) (ea_cons (e := .var 0) e_var (ea_cons (e := .bin .add (.var 2) (.const (.int 1))) (x := .int ((ws + 1 : Nat) : Int)) (e_bin e_var e_con rfl) ea_nil)) hd5
      have e3 := e_takeD (o := o) e1 e2
      rw [List.map_take]
      exact e3
    refine x_set (esl false) (Nat.le_of_ble_eq_true rfl) ?_
    refine x_set hp (Nat.le_of_ble_eq_true rfl) ?_
    exact x_ret (e_tup (es_cons e_var (es_cons (e_bi (e_ssetP (e_bor rfl) hpe hl4') rfl) (es_cons e_var (es_cons e_var (es_cons (e_bi e_var rfl) es_nil))))) (szl (by show 5 ≤ 1000000; omega)))
end
end Gra

end
section
set_option Elab.async false
set_option linter.all false
set_option maxRecDepth 100000
set_option maxHeartbeats 8000000
set_option autoImplicit false
/-! GraN: graphs with an output more, an input less; layers compared. -/
namespace Gra
open PySem PySem.Spec PyProof.Rows L2 Eng
def bWith : Ss :=
 (.cons (.asg (.tup (.cons (.name 3) (.cons (.name 4) (.cons (.name 5) (.cons (.name 6) (.cons (.name 7) .nil)))))) (.var 0)) (.cons (.set 2 (.bi .tuple (.comp [("at", 8), ("plane", 9)] (.tup (.cons (.name 8) (.cons (.name 9) .nil))) (.enum (.var 7)) .none (.ite (.cmp .eq (.var 8) (.var 1)) (.const (.str "")) (.var 9))))) (.cons (.ret (.tup (.cons (.var 3) (.cons (.var 4) (.cons (.var 5) (.cons (.bi .tuple (.sset (.bin .add (.var 6) (.tup (.cons (.var 1) .nil))))) (.cons (.var 2) .nil))))))) .nil)))
def fdWith (s : Stmt) : FD := { name := "with_output", ps := ["graph", "vertex"], N := ["graph", "vertex", "words", "many", "edges", "inputs", "outputs", "planes", "at", "plane"], st := s, body := bWith }
def bWithout : Ss :=
 (.cons (.asg (.tup (.cons (.name 2) (.cons (.name 3) (.cons (.name 4) (.cons (.name 5) (.cons (.name 6) .nil)))))) (.var 0)) (.cons (.ret (.tup (.cons (.var 2) (.cons (.var 3) (.cons (.bi .tuple (.comp [("one", 7)] (.name 7) (.seq (.var 4)) (.some (.cmp .ne (.var 7) (.var 1))) (.var 7))) (.cons (.var 5) (.cons (.var 6) .nil))))))) .nil))
def fdWithout (s : Stmt) : FD := { name := "without_input", ps := ["graph", "vertex"], N := ["graph", "vertex", "many", "edges", "inputs", "outputs", "planes", "one"], st := s, body := bWithout }
section
variable {gl : List D} {tab : List Ent} {k : Nat} {st : Sta} {n : Nat} {es : List (Int × Int)} {ins outs : List Int} {lab : List (Fin 4)} {w : Fin 4}
theorem zip_set {lab : List (Fin 4)} {v : Nat} : ∀ (i : Nat) (l : List (Fin 4)), (l.zipIdx i).map (fun p => wD (if p.2 = i + v then 0 else p.1)) = (l.set v 0).map wD := by
  intro i l
  refine (List.map_map (f := fun p : Fin 4 × Nat => if p.2 = i + v then (0 : Fin 4) else p.1) (g := wD)).symm.trans ?_
  congr 1
  apply List.ext_getElem?
  intro j
  rw [List.getElem?_map, List.getElem?_zipIdx, List.getElem?_set]
  by_cases q : v = j
  · subst q
    cases q2 : l[v]? with
    | none =>
      have : ¬ v < l.length := fun z => by rw [List.getElem?_eq_getElem z] at q2; cases q2
      simp [this]
    | some x =>
      have := (List.getElem?_eq_some_iff.mp q2).1
      simp [this]
  · rw [if_neg q]
    cases l[j]? with
    | none => rfl
    | some x => simp [show ¬ j = v by omega]
theorem m_with {i : Nat} {s0 : Stmt} (H : tab[i]? = some (.df (fdWith s0))) (hn : n ≤ 24) (hl : lab.length = n) (ho : outs.length ≤ n) {v : Nat} : run gl tab (k + 1) i [gD n es ins outs lab, .int (v : Nat)] st = .ok (gD n es ins (ssetL (outs ++ [(v : Int)])) (lab.set v 0)) st := by
  refine r_ret H rfl ?_
  refine x_asg (d := gD n es ins outs lab) e_var (ρ1 := [.val (gD n es ins outs lab), .val (.int (v : Nat)), .emp, .val (.int n), .val (.tuple (es.map edgeD)), .val (.tuple (ins.map .int)), .val (.tuple (outs.map .int)), .val (.tuple (lab.map wD)), .emp, .emp]) rfl ?_
  refine x_set (st1 := st) (d := .tuple ((lab.set v 0).map wD)) (e_bi (x := .list ((lab.set v 0).map wD)) ?_ rfl) (Nat.le_of_ble_eq_true rfl) ?_
  · have h := e_comp (cl := run gl tab k) (gl := gl) (st := st) (o := true) (ρ := [.val (gD n es ins outs lab), .val (.int (v : Nat)), .emp, .val (.int n), .val (.tuple (es.map edgeD)), .val (.tuple (ins.map .int)), .val (.tuple (outs.map .int)), .val (.tuple (lab.map wD)), .emp, .emp]) (own := [("at", 8), ("plane", 9)]) (tg := .tup (.cons (.name 8) (.cons (.name 9) .nil))) (it := .enum (.var 7)) (co := .none) (e := .ite (.cmp .eq (.var 8) (.var 1)) (.const (.str "")) (.var 9))
      (φ := fun p : Fin 4 × Nat => .tuple [.int (p.2 : Nat), wD p.1]) (xs := lab.zipIdx 0) (fun _ => true) (fun p => wD (if p.2 = 0 + v then 0 else p.1)) ((it_enumT e_var).trans (by rw [enum_map])) (fun p _ => ⟨[.val (gD n es ins outs lab), .val (.int (v : Nat)), .emp, .val (.int n), .val (.tuple (es.map edgeD)), .val (.tuple (ins.map .int)), .val (.tuple (outs.map .int)), .val (.tuple (lab.map wD)), .val (.int (p.2 : Nat)), .val (wD p.1)], rfl, i_none, fun _ => ?_⟩) (by rw [List.length_zipIdx]; exact szl (by omega))
    · rw [List.filter_eq_self.mpr (fun _ _ => rfl), zip_set (lab := lab)] at h
      exact h
    · by_cases q : p.2 = v
      · rw [if_pos (by omega)]
        exact e_iteT (e_cmp e_var e_var ((c_eq _ _).trans (by rw [decide_eq_true (by omega)]))) e_con
      · rw [if_neg (by omega)]
        exact e_iteF (e_cmp e_var e_var ((c_eq _ _).trans (by rw [decide_eq_false (by omega)]))) e_var
  · refine x_ret (e_tup (es_cons e_var (es_cons e_var (es_cons e_var (es_cons (e_bi (e_sset (ns := outs ++ [(v : Int)]) ?_ (by rw [List.length_append]; show outs.length + 1 ≤ 60; omega)) rfl) (es_cons e_var es_nil))))) (szl (by show 5 ≤ 1000000; omega)))
    refine e_bin e_var (e_tup (es_cons e_var es_nil) (szl (by show 1 ≤ 1000000; omega))) ?_
    rw [addB, addD_tup, List.map_append]
    · rfl
    · rw [List.length_map]; exact szl (by show outs.length + 1 ≤ 1000000; omega)
theorem m_without {i : Nat} {s0 : Stmt} (H : tab[i]? = some (.df (fdWithout s0))) (hn : n ≤ 24) (hi : ins.length ≤ n) {v : Nat} : run gl tab (k + 1) i [gD n es ins outs lab, .int (v : Nat)] st = .ok (gD n es (ins.filter fun x => !decide (x = (v : Int))) outs lab) st := by
  refine r_ret H rfl ?_
  refine x_asg (d := gD n es ins outs lab) e_var (ρ1 := [.val (gD n es ins outs lab), .val (.int (v : Nat)), .val (.int n), .val (.tuple (es.map edgeD)), .val (.tuple (ins.map .int)), .val (.tuple (outs.map .int)), .val (.tuple (lab.map wD)), .emp]) rfl ?_
  refine x_ret (e_tup (es_cons e_var (es_cons e_var (es_cons (e_bi (e_comp (φ := .int) (xs := ins) (fun x => !decide (x = (v : Int))) .int (it_seqT e_var) (fun x _ => ⟨[.val (gD n es ins outs lab), .val (.int (v : Nat)), .val (.int n), .val (.tuple (es.map edgeD)), .val (.tuple (ins.map .int)), .val (.tuple (outs.map .int)), .val (.tuple (lab.map wD)), .val (.int x)], rfl, i_some (e_cmp e_var e_var (c_ne _ _)), fun _ => e_var⟩) (szl (by omega))) rfl) (es_cons e_var (es_cons e_var es_nil))))) (szl (by show 5 ≤ 1000000; omega)))
theorem gD_eqv : PyData.eqv (gD n es ins outs lab) (gD n es ins outs lab) = true := by
  have h1 := (Emb.int.pair Emb.int).tup.eq es es
  have h2 := Emb.int.tup.eq ins ins
  have h3 := Emb.int.tup.eq outs outs
  have h4 := wEmb.tup.eq lab lab
  have h5 : PyData.eqv (.tuple (es.map edgeD)) (.tuple (es.map edgeD)) = true := h1.trans (decide_eq_true rfl)
  unfold gD graphD
  simp only [PyData.eqv, PyData.eqvAll] at h1 h2 h3 h4 h5 ⊢
  rw [h5, h2, h3, h4]
  simp
theorem gD_eqD : eqD (gD n es ins outs lab) (gD n es ins outs lab) = some true := by
  have h : sh 3 (gD n es ins outs lab) = true := sh_tuple (n := 2) fun d hd => by
    simp only [List.mem_cons, List.not_mem_nil, or_false] at hd
    rcases hd with rfl | rfl | rfl | rfl | rfl
    · rfl
    · exact (Emb.int.pair Emb.int).tup.sh es
    · exact sh_mono (Emb.int.tup.sh ins) (by decide)
    · exact sh_mono (Emb.int.tup.sh outs) (by decide)
    · exact sh_mono (wEmb.tup.sh lab) (by decide)
  unfold Eng.eqD
  rw [sh_shaped h (by decide), gD_eqv]
  rfl
end
/-! ### the layers -/
def lay (n : Nat) (es : List (Int × Int)) (ins : List Int) (lab : List (Fin 4)) (o : List Int) : Nat → List Int
  | 0 => o
  | k + 1 => isort (lay n es ins lab o k ++ foundL n es ins lab (lay n es ins lab o k))
section
variable {n : Nat} {es : List (Int × Int)} {ins outs : List Int} {lab : List (Fin 4)}
theorem vs_lay (ho : VS n outs) : ∀ k, VS n (lay n es ins lab outs k)
  | 0 => ho
  | k + 1 => vs_next (vs_lay ho k)
theorem lay_step {k : Nat} {x : Int} : x ∈ lay n es ins lab outs (k + 1) ↔ x ∈ lay n es ins lab outs k ∨ x ∈ foundL n es ins lab (lay n es ins lab outs k) := by
  show x ∈ isort _ ↔ _
  rw [mem_isort, List.mem_append]
theorem lay_mono {x : Int} : ∀ {j k : Nat}, j ≤ k → x ∈ lay n es ins lab outs j → x ∈ lay n es ins lab outs k
  | j, 0, h, hx => by rw [show j = 0 by omega] at hx; exact hx
  | j, k + 1, h, hx => by
    rcases Nat.lt_or_ge k j with z | z
    · rw [show j = k + 1 by omega] at hx; exact hx
    · exact lay_step.mpr (.inl (lay_mono z hx))
theorem lay_stop {K : Nat} {x : Int} (h : foundL n es ins lab (lay n es ins lab outs K) = []) : ∀ j, x ∈ lay n es ins lab outs j → x ∈ lay n es ins lab outs K := fun j hx => by
  rcases Nat.le_total j K with z | z
  · exact lay_mono z hx
  · obtain ⟨d, rfl⟩ : ∃ d, j = K + d := ⟨j - K, by omega⟩
    have key : ∀ d, (∀ y, y ∈ lay n es ins lab outs (K + d) ↔ y ∈ lay n es ins lab outs K) := by
      intro d
      induction d with
      | zero => exact fun _ => Iff.rfl
      | succ d ih =>
        intro y
        have ef : foundL n es ins lab (lay n es ins lab outs (K + d)) = foundL n es ins lab (lay n es ins lab outs K) := by
          unfold foundL
          apply List.filter_congr
          intro z _
          unfold foundB corrV corrO
          congr 2
          · rw [decide_eq_decide.mpr (ih z)]
          · congr 1
            funext X
            exact does_same ih
        rw [← Nat.add_assoc, lay_step, ef, h, ih]
        simp
    exact (key d x).mp hx
/-- what the layers are, where i of them are done -/
def LayOk (n : Nat) (es : List (Int × Int)) (ins : List Int) (lab : List (Fin 4)) (outs : List Int) (i : Nat) (l : List Int) : Prop :=
  l.length = n ∧ ∀ v : Nat, v < n → (v : Int) ∈ lay n es ins lab outs i → ∃ j : Nat, j ≤ i ∧ l[v]? = some (j : Int) ∧ (v : Int) ∈ lay n es ins lab outs j ∧ ∀ j', (v : Int) ∈ lay n es ins lab outs j' → j ≤ j'
theorem fold_at {later : List Int} {layer : Int} {v : Nat} : ∀ (ys : List Int) {S : SL}, (∀ y ∈ ys, y ∈ rng n) → v < S.2.length → (ys.foldl (stepV n es ins lab later layer) S).2[v]? = if (v : Int) ∈ ys ∧ foundB n es ins lab later (v : Int) = true then some layer else S.2[v]?
  | [], S, _, _ => by simp
  | y :: ys, S, h, hl => by
    rw [List.foldl_cons, fold_at ys (fun z hz => h z (List.mem_cons_of_mem _ hz)) (by rw [step_len.2]; exact hl)]
    have hy := mem_rng.mp (h y (List.mem_cons_self ..))
    obtain ⟨u, rfl⟩ : ∃ u : Nat, y = u := ⟨y.toNat, by omega⟩
    have e1 : (stepV n es ins lab later layer S (u : Int)).2[v]? = if v = u ∧ foundB n es ins lab later (u : Int) = true then some layer else S.2[v]? := by
      unfold stepV foundB
      by_cases q : (u : Int) ∈ later
      · simp [q]
      · rw [if_neg q, decide_eq_false q]
        cases corrV n es ins lab later (u : Int) with
        | none => simp
        | some X =>
          simp only [Int.toNat_natCast, Bool.not_false, Bool.true_and, Option.isSome_some, and_true]
          rw [List.getElem?_set]
          by_cases z : u = v
          · subst z; simp [hl]
          · rw [if_neg z, if_neg fun w => z w.symm]
    rw [e1]
    by_cases c : v = u
    · subst c
      by_cases b : foundB n es ins lab later (v : Int) = true
      · simp [b]
      · simp [b]
    · have m : (v : Int) ∈ (u : Int) :: ys ↔ (v : Int) ∈ ys := by
        rw [List.mem_cons]
        exact ⟨fun z => z.resolve_left fun w => c (by omega), .inr⟩
      rw [if_neg fun z : v = u ∧ _ => c z.1]
      simp only [m]
theorem soon_lay (ho : VS n outs) : ∀ (k i : Nat) (S : SL), S.1.length = n → LayOk n es ins lab outs i S.2 → n - (lay n es ins lab outs i).length ≤ k →
    ∃ K, K ≤ i + k ∧ (soon n es ins lab k (lay n es ins lab outs i) (i : Int) S).1 = lay n es ins lab outs K ∧ (foundL n es ins lab (lay n es ins lab outs K) = [] ∨ ¬ (lay n es ins lab outs K).length < n) ∧ LayOk n es ins lab outs K (soon n es ins lab k (lay n es ins lab outs i) (i : Int) S).2.2
  | 0, i, S, _, hL, hk => ⟨i, Nat.le_refl _, rfl, .inr (by omega), hL⟩
  | k + 1, i, S, h1, hL, hk => by
    unfold soon
    by_cases q : (lay n es ins lab outs i).length < n
    · rw [if_pos q]
      by_cases qf : foundL n es ins lab (lay n es ins lab outs i) = []
      · rw [if_pos qf]
        exact ⟨i, by omega, rfl, .inl qf, hL⟩
      · rw [if_neg qf]
        have hpos : 0 < (foundL n es ins lab (lay n es ins lab outs i)).length := List.length_pos_iff.mpr qf
        have hlen : (lay n es ins lab outs (i + 1)).length = (lay n es ins lab outs i).length + (foundL n es ins lab (lay n es ins lab outs i)).length := by
          show (isort _).length = _
          rw [isort_len, List.length_append]
        have fl := fold_len (n := n) (es := es) (ins := ins) (lab := lab) (later := lay n es ins lab outs i) (layer := (i : Int) + 1) (rng n) (S := S)
        have hL' : LayOk n es ins lab outs (i + 1) (stepL n es ins lab (lay n es ins lab outs i) ((i : Int) + 1) S).2 := by
          refine ⟨fl.2.trans hL.1, fun v hv hx => ?_⟩
          unfold stepL
          rw [fold_at (rng n) (fun _ h => h) (by rw [hL.1]; exact hv)]
          have hvr : (v : Int) ∈ rng n := mem_rng.mpr (by omega)
          rcases lay_step.mp hx with z | z
          · have nf : ¬ foundB n es ins lab (lay n es ins lab outs i) (v : Int) = true := by
              unfold foundB
              rw [decide_eq_true z]
              simp
            rw [if_neg fun w => nf w.2]
            obtain ⟨j, g1, g2, g3⟩ := hL.2 v hv z
            exact ⟨j, by omega, g2, g3⟩
          · have hf := (List.mem_filter.mp z).2
            rw [if_pos ⟨hvr, hf⟩]
            refine ⟨i + 1, Nat.le_refl _, by congr 1, hx, fun j' hj' => ?_⟩
            rcases Nat.lt_or_ge i j' with w | w
            · exact w
            · exact absurd (lay_mono w hj') (found_facts z).2.1
        obtain ⟨K, g1, g2, g3, g4⟩ := soon_lay ho k (i + 1) _ (fl.1.trans h1) hL' (by omega)
        rw [show (((i + 1 : Nat) : Int)) = (i : Int) + 1 by omega] at g2 g4
        exact ⟨K, by omega, g2, g3, g4⟩
    · rw [if_neg q]
      exact ⟨i, by omega, rfl, .inr q, hL⟩
/-- what the soonest layers are -/
theorem soonest_lay (ho : VS n outs) : ∃ K, K ≤ n ∧ (soonest n es ins outs lab).1 = lay n es ins lab outs K ∧ (∀ j x, x ∈ lay n es ins lab outs j → x ∈ lay n es ins lab outs K) ∧ LayOk n es ins lab outs K (soonest n es ins outs lab).2.2 := by
  obtain ⟨K, h0, h1, h2, h3⟩ := soon_lay (es := es) (ins := ins) (lab := lab) ho n 0 (List.replicate n [], List.replicate n 0) List.length_replicate ⟨List.length_replicate, fun v hv hx => ⟨0, Nat.le_refl _, by show (List.replicate n (0 : Int))[v]? = _; rw [List.getElem?_replicate, if_pos hv]; rfl, hx, fun _ _ => Nat.zero_le _⟩⟩ (Nat.sub_le _ _)
  refine ⟨K, by omega, h1, fun j x hx => ?_, h3⟩
  rcases h2 with h2 | h2
  · exact lay_stop h2 j hx
  · exact len_full (vs_lay ho K) h2 x ((vs_lay ho j).rg x hx)
theorem does_mono {w : Fin 4} {v : Int} {X later later' ins' : List Int} (hi : ∀ x ∈ ins', x ∈ ins) (hl : ∀ x ∈ later, x ∈ later') (h : doesB es ins w v X later = true) : doesB es ins' w v X later' = true := by
  unfold doesB at h ⊢
  simp only [Bool.and_eq_true, Bool.not_eq_true', List.any_eq_false, List.all_eq_true, decide_eq_true_eq, Bool.or_eq_true] at h ⊢
  obtain ⟨⟨a1, a2⟩, a3⟩ := h
  exact ⟨⟨fun x hx z => a1 x hx (hi x z), a2⟩, fun x hx => (a3 x hx).imp id (hl x)⟩
/-- another graph with outputs more, inputs less, has no layer greater -/
theorem lay_sub {ins' outs' : List Int} {lab' : List (Fin 4)} (hi : ∀ x ∈ ins', x ∈ ins) (ho : ∀ x ∈ outs, x ∈ outs') (hw : ∀ v ∈ rng n, v ∉ outs' → wAt lab' v = wAt lab v) {x : Int} : ∀ k, x ∈ lay n es ins lab outs k → x ∈ lay n es ins' lab' outs' k := by
  intro k
  induction k generalizing x with
  | zero => exact ho x
  | succ k ih =>
    intro hx
    rcases lay_step.mp hx with z | z
    · exact lay_step.mpr (.inl (ih z))
    · by_cases q : x ∈ lay n es ins' lab' outs' k
      · exact lay_step.mpr (.inl q)
      · obtain ⟨f1, f2, f3⟩ := found_facts z
        have hwx := hw x f1 fun w => q (lay_mono (Nat.zero_le k) w)
        refine lay_step.mpr (.inr (List.mem_filter.mpr ⟨f1, ?_⟩))
        unfold foundB
        rw [decide_eq_false q, Bool.not_false, Bool.true_and]
        cases c : corrV n es ins lab (lay n es ins lab outs k) x with
        | none => rw [c] at f3; cases f3
        | some X =>
          obtain ⟨⟨vX, hX⟩, _⟩ := first_of_find c
          have hX' := does_mono (ins' := ins') (later' := lay n es ins' lab' outs' k) hi (fun y hy => ih hy) hX
          cases c' : corrV n es ins' lab' (lay n es ins' lab' outs' k) x with
          | some _ => rfl
          | none =>
            unfold corrV at c'
            rw [hwx] at c'
            have := find_none.mp c' X vX
            rw [hX'] at this
            cases this
theorem held_iff {later : List Int} (hl : VS n later) : (heldL n later).length = 0 ↔ ¬ later.length < n := by
  constructor
  · intro h q
    have e : heldL n later = [] := List.eq_nil_of_length_eq_zero h
    have sub : ∀ x ∈ rng n, x ∈ later := fun x hx => Decidable.byContradiction fun nx => by
      have : x ∈ heldL n later := List.mem_filter.mpr ⟨hx, by simpa using nx⟩
      rw [e] at this
      cases this
    have e2 : later = rng n := ss_ext hl.ss (ss_rng n) fun x => ⟨hl.rg x, sub x⟩
    rw [e2, rng_len] at q
    omega
  · intro h
    have := len_full hl h
    have e : heldL n later = [] := List.filter_eq_nil_iff.mpr fun x hx => by simp [this x hx]
    rw [e]
    rfl
end
end Gra

end
section
set_option Elab.async false
set_option linter.all false
set_option maxRecDepth 100000
set_option maxHeartbeats 8000000
set_option autoImplicit false
/-! GraO: the law's reading of a set that bars; its barrier. -/
namespace Gra
open PySem PySem.Spec PyProof.Rows L2 Eng
def bBarsL (ir : Nat) : Ss :=
 (.cons (.ite (.and (.cmp .nin (.var 5) (.var 1)) (.cmp .nin (.var 5) (.idx (.var 0) (.const (.int 2)))))
 (.cons (.ite (.cmp .eq (.bin .mod (.bi .int (.bi .len (.comp [("one", 8)] (.name 8) (.seq (.call ir (.cons (.var 0) (.cons (.var 5) .nil)))) (.some (.cmp .inn (.var 8) (.var 3))) (.var 8)))) (.const (.int 2))) (.const (.int 1)))
 (.cons (.ret (.const (.bool false))) .nil)
 .nil)
 .nil)
 .nil)
 .nil)
def bBarsE : Ss :=
 (.cons (.set 6 (.idx (.idx (.var 0) (.const (.int 4))) (.var 2))) (.cons (.set 7 (.bin .add (.bin .mul (.bi .len (.comp [("one", 8)] (.name 8) (.seq (.var 4)) (.some (.cmp .inn (.var 8) (.var 3))) (.var 8))) (.bi .int (.cmp .ne (.var 6) (.const (.str "XY"))))) (.bin .mul (.bi .int (.cmp .inn (.var 2) (.var 3))) (.bi .int (.cmp .ne (.var 6) (.const (.str "YZ"))))))) (.cons (.ret (.cmp .eq (.bin .mod (.bi .int (.var 7)) (.const (.int 2))) (.const (.int 1)))) .nil)))
def bBars (ir : Nat) : Ss :=
 (.cons (.set 4 (.call ir (.cons (.var 0) (.cons (.var 2) .nil)))) (.cons (.for (.name 5) (.rng1 (.idx (.var 0) (.const (.int 0)))) (bBarsL ir)) bBarsE))
def fdBars (s : Stmt) (ir : Nat) : FD := { name := "_law_bars", ps := ["graph", "held", "vertex", "some"], N := ["graph", "held", "vertex", "some", "near", "other", "word", "count", "one"], st := s, body := bBars ir }
def bBarrier (ist ib : Nat) : Ss :=
 (.cons (.setO 2 (.lst .nil)) (.cons (.for (.name 3) (.seq (.var 1))
 (.cons (.set 4 (.comp [("some", 5)] (.name 5) (.seq (.call ist (.cons (.idx (.var 0) (.const (.int 0))) .nil))) (.some (.cmp .eq (.bi .len (.comp [("one", 6)] (.name 6) (.seq (.var 5)) (.some (.cmp .nin (.var 6) (.var 1))) (.var 6))) (.const (.int 0)))) (.var 5))) (.cons (.app 2 (.idx (.comp [("some", 5)] (.name 5) (.seq (.var 4)) (.some (.call ib (.cons (.var 0) (.cons (.var 1) (.cons (.var 3) (.cons (.var 5) .nil)))))) (.var 5)) (.const (.int 0)))) .nil)))
 (.cons (.ret (.bi .tuple (.bor 2))) .nil)))
def fdBarrier (s : Stmt) (ist ib : Nat) : FD := { name := "_law_barrier", ps := ["graph", "held"], N := ["graph", "held", "told", "vertex", "rows", "some", "one"], st := s, body := bBarrier ist ib }
section
variable {gl : List D} {tab : List Ent} {k : Nat} {st : Sta} {n : Nat} {es : List (Int × Int)} {ins outs : List Int} {lab : List (Fin 4)} {w : Fin 4}
def envB (n : Nat) (es : List (Int × Int)) (ins outs : List Int) (lab : List (Fin 4)) (hd : D) (v : Nat) (X near : List Int) (s5 s6 s7 s8 : Slot) : Eng.Env :=
  [.val (gD n es ins outs lab), .val hd, .val (.int (v : Nat)), .val (.tuple (X.map .int)), .val (.list (near.map .int)), s5, s6, s7, s8]
theorem mulN {a b : Nat} (ha : a ≤ 1000) (hb : b ≤ 1000) : binD .mul (.int (a : Nat)) (.int (b : Nat)) = some (.int ((a * b : Nat) : Int)) := by
  show (if ((a : Int)).natAbs.log2 + ((b : Int)).natAbs.log2 < 1000000 then some (PyData.int ((a : Int) * (b : Int))) else none) = _
  rw [if_pos]
  · simp
  · have h1 := Nat.log2_le_self a
    have h2 := Nat.log2_le_self b
    rw [Int.natAbs_natCast, Int.natAbs_natCast]
    omega
theorem toNat_le (b : Bool) : b.toNat ≤ 1000 := by cases b <;> decide
theorem cnt_len {cl : Calls} {e : E} {l X near : List Int} {hd : D} {v : Nat} {s5 s6 s7 s8 : Slot} (h : ev cl gl (envB n es ins outs lab hd v X near s5 s6 s7 s8) true e st = .ok (.list (l.map .int)) st) (hl : l.length ≤ 1000) {o : Bool} :
    ev cl gl (envB n es ins outs lab hd v X near s5 s6 s7 s8) o (.bi .len (.comp [("one", 8)] (.name 8) (.seq e) (.some (.cmp .inn (.var 8) (.var 3))) (.var 8))) st = .ok (.int ((l.filter fun u => decide (u ∈ X)).length : Nat)) st :=
  e_bi (x := .list ((l.filter fun u => decide (u ∈ X)).map .int)) (e_comp (φ := .int) (xs := l) (fun u => decide (u ∈ X)) .int (it_seqL h) (fun u _ => ⟨envB n es ins outs lab hd v X near s5 s6 s7 (.val (.int u)), rfl, i_some (e_cmp e_var e_var (c_inn _ _)), fun _ => e_var⟩) (szl (by omega))) (by simp only [biD, List.length_map])
theorem m_bars {i ir : Nat} {s sr : Stmt} (H : tab[i]? = some (.df (fdBars s ir))) (Hr : tab[ir]? = some (.df (fdNear sr))) (S : Simple n es) (he : es.length ≤ 100000) (hn : n ≤ 1000) {v : Nat} (hw : lab[v]? = some w) (hw0 : w ≠ 0) {X held : List Int} (hX : SS X) {hd : D} (hh : IsSeq hd held) :
    run gl tab (k + 2) i [gD n es ins outs lab, hd, .int (v : Nat), .tuple (X.map .int)] st = .ok (.bool (barsB n es ins held w v X)) st := by
  refine r_ret H rfl ?_
  have near : ∀ (x : Int) (s : Sta), run gl tab (k + 1) ir [gD n es ins outs lab, .int x] s = .ok (.list ((nbr es x).map .int)) s := fun x s => m_near (k := k) Hr he x
  have lnear : ∀ x : Int, (nbr es x).length ≤ 1000 := fun x => Nat.le_trans (ss_len (n := n) (ss_nbr S x) fun z hz => nbr_rng S hz) hn
  let good := fun o : Int => decide (o ∈ held) || decide (o ∈ ins) || decide (cnt es o X % 2 = 0)
  have T : ∀ s5 s6 s7 s8, execs (run gl tab (k + 1)) gl (.cons (.for (.name 5) (.rng1 (.idx (.var 0) (.const (.int 0)))) (bBarsL ir)) bBarsE) (envB n es ins outs lab hd v X (nbr es v) s5 s6 s7 s8) st = .ok (.ret (.bool (barsB n es ins held w v X))) st := fun s5 s6 s7 s8 => by
    have hit : ∀ {o : Bool}, evIt (run gl tab (k + 1)) gl (envB n es ins outs lab hd v X (nbr es v) s5 s6 s7 s8) o (.rng1 (.idx (.var 0) (.const (.int 0)))) st = .ok ((rng n).map PyData.int) st := fun {o} => evIt_rng1 (e_idx (y := .int 0) e_var e_con (idxT0 _ _)) (low (by omega))
    rcases for_mapR (tg := .name 5) (φ := PyData.int) (xs := rng n) (body := execs (run gl tab (k + 1)) gl (bBarsL ir)) (st := st) (ρ := envB n es ins outs lab hd v X (nbr es v) s5 s6 s7 s8)
      (fun d s => d = .bool false ∧ s = st ∧ ((rng n).all good) = false) (fun ys _ ρ s => s = st ∧ (∀ y ∈ ys, good y = true) ∧ ∃ s5, ρ = envB n es ins outs lab hd v X (nbr es v) s5 s6 s7 s8) ⟨rfl, (fun _ z => nomatch z), _, rfl⟩ (fun ys x zs ρ s e h => by
        obtain ⟨rfl, hg, s5, rfl⟩ := h
        have hx : x ∈ rng n := by rw [e]; exact List.mem_append_right _ (List.mem_cons_self ..)
        refine ⟨envB n es ins outs lab hd v X (nbr es v) (.val (.int x)) s6 s7 s8, rfl, ?_⟩
        have t : ev (run gl tab (k + 1)) gl (envB n es ins outs lab hd v X (nbr es v) (.val (.int x)) s6 s7 s8) false (.and (.cmp .nin (.var 5) (.var 1)) (.cmp .nin (.var 5) (.idx (.var 0) (.const (.int 2))))) s = .ok (.bool (!decide (x ∈ held) && !decide (x ∈ ins))) s := e_and2 (e_cmp e_var e_var (hh.nin _)) (e_cmp e_var (e_idx e_var e_con (idxT (i := 2) rfl)) (c_nin _ _))
        have u : ev (run gl tab (k + 1)) gl (envB n es ins outs lab hd v X (nbr es v) (.val (.int x)) s6 s7 s8) false (.cmp .eq (.bin .mod (.bi .int (.bi .len (.comp [("one", 8)] (.name 8) (.seq (.call ir (.cons (.var 0) (.cons (.var 5) .nil)))) (.some (.cmp .inn (.var 8) (.var 3))) (.var 8)))) (.const (.int 2))) (.const (.int 1))) s = .ok (.bool (decide (((cnt es x X : Nat) : Int) % 2 = 1))) s := by
          rw [← cnt_near S hX x]
          exact e_cmp (e_bin (e_bi (cnt_len (e_call (ea_cons e_var (ea_cons e_var ea_nil)) (near x s)) (lnear x)) rfl) e_con (modD (by decide))) e_con (c_eq _ _)
        have next : good x = true → ∀ y ∈ ys ++ [x], good y = true := fun gx y hy => by
          rcases List.mem_append.mp hy with z | z
          · exact hg y z
          · rw [List.mem_singleton.mp z]; exact gx
        by_cases q1 : x ∈ held ∨ x ∈ ins
        · have gx : good x = true := by show (decide (x ∈ held) || decide (x ∈ ins) || decide (cnt es x X % 2 = 0)) = true; rcases q1 with q | q <;> simp [q]
          have f : (!decide (x ∈ held) && !decide (x ∈ ins)) = false := by rcases q1 with q | q <;> simp [q]
          rw [f] at t
          exact .inl ⟨_, s, .inl (x_skip t x_nil), rfl, next gx, _, rfl⟩
        · have n1 : x ∉ held := fun z => q1 (.inl z)
          have n2 : x ∉ ins := fun z => q1 (.inr z)
          rw [show (!decide (x ∈ held) && !decide (x ∈ ins)) = true by simp [n1, n2]] at t
          by_cases q2 : cnt es x X % 2 = 0
          · have gx : good x = true := by show (decide (x ∈ held) || decide (x ∈ ins) || decide (cnt es x X % 2 = 0)) = true; simp [q2]
            rw [decide_eq_false (by omega)] at u
            exact .inl ⟨_, s, .inl (x_iteT t (x_skip u x_nil) x_nil), rfl, next gx, _, rfl⟩
          · rw [decide_eq_true (by omega)] at u
            refine .inr ⟨_, s, x_iteR t (x_iteR u (x_ret e_con)), rfl, rfl, ?_⟩
            rw [List.all_eq_false]
            exact ⟨x, hx, by show ¬ (decide (x ∈ held) || decide (x ∈ ins) || decide (cnt es x X % 2 = 0)) = true; simp [n1, n2, q2]⟩)
      with ⟨ρ', st', h2, rfl, hg, s5', rfl⟩ | ⟨d, st', h2, rfl, rfl, hg⟩
    · refine x_for hit h2 ?_
      have hall : (rng n).all good = true := List.all_eq_true.mpr hg
      refine x_set (word_at rfl rfl hw) (Nat.le_of_ble_eq_true rfl) ?_
      have wne : ∀ {cl : Calls} {ρ : Eng.Env} (c : Fin 4), ρ[6]? = some (.val (wD w)) → ev cl gl ρ true (.cmp .ne (.var 6) (.const (wD c))) st' = .ok (.bool (!decide (w = c))) st' := fun {cl ρ} c h => e_cmp (e_var h) e_con (by
        show (eqD (wD w) (wD c)).map (!·) = _
        rw [wEmb.eqD]
        rfl)
      refine x_set (d := .int (((cnt es v X * (!decide (w = 1)).toNat + (decide ((v : Int) ∈ X)).toNat * (!decide (w = 3)).toNat : Nat) : Int))) (e_bin (e_bin (x := .int ((cnt es v X : Nat) : Int)) (z := .int (((cnt es v X * (!decide (w = 1)).toNat : Nat)) : Int)) ?_ (intB (wne 1 rfl)) ?_) (e_bin (z := .int ((((decide ((v : Int) ∈ X)).toNat * (!decide (w = 3)).toNat : Nat)) : Int)) (intB (e_cmp e_var e_var (c_inn _ _))) (intB (wne 3 rfl)) ?_) ?_) (Nat.le_of_ble_eq_true rfl) ?_
      · rw [← cnt_near S hX v]
        exact cnt_len e_var (lnear v)
      · refine mulN ?_ (toNat_le _)
        rw [← cnt_near S hX v]
        exact Nat.le_trans (len_f _ _) (lnear v)
      · exact mulN (toNat_le _) (toNat_le _)
      · show some (PyData.int _) = _
        simp
      · refine x_ret (e_cmp (e_bin (e_bi e_var rfl) e_con (modD (by decide))) e_con ((c_eq _ _).trans ?_))
        congr 1
        unfold barsB
        rw [show ((rng n).all fun o => decide (o ∈ held) || decide (o ∈ ins) || decide (cnt es o X % 2 = 0)) = true from hall, Bool.true_and]
        have e1 : (!decide (w = 1)).toNat = if need w = true then 1 else 0 := by
          have key : ∀ w : Fin 4, w ≠ 0 → (!decide (w = 1)).toNat = if need w = true then 1 else 0 := by decide
          exact key w hw0
        have e2 : (decide (w ≠ 3 ∧ (v : Int) ∈ X)).toNat = (decide ((v : Int) ∈ X)).toNat * (!decide (w = 3)).toNat := by
          by_cases a : w = 3 <;> by_cases b : (v : Int) ∈ X <;> simp [a, b]
        rw [e1, e2]
        refine decide_eq_decide.mpr ?_
        split
        · rw [Nat.mul_one]; omega
        · rw [Nat.mul_zero]; omega
    · refine (x_forR hit h2).trans ?_
      have : barsB n es ins held w v X = false := by
        unfold barsB
        rw [show ((rng n).all fun o => decide (o ∈ held) || decide (o ∈ ins) || decide (cnt es o X % 2 = 0)) = false from hg, Bool.false_and]
      rw [this]
  refine x_set (e_call (ea_cons e_var (ea_cons e_var ea_nil)) (near v st)) (Nat.le_of_ble_eq_true rfl) ?_
  exact T _ _ _ _
theorem m_barrier {i ist ib ir : Nat} {s0 ss sb sr : Stmt} (H : tab[i]? = some (.df (fdBarrier s0 ist ib))) (Hs : tab[ist]? = some (.df (fdSets ss))) (Hb : tab[ib]? = some (.df (fdBars sb ir))) (Hr : tab[ir]? = some (.df (fdNear sr))) (S : Simple n es) (he : es.length ≤ 100000) (hn : n ≤ 10) {held : List Int} (hh : VS n held)
    (ok : ∀ v ∈ held, lab[v.toNat]? = some (wAt lab v) ∧ wAt lab v ≠ 0 ∧ ∃ Y, evenO n es ins held (wAt lab v) v = some Y) :
    run gl tab (k + 3) i [gD n es ins outs lab, .tuple (held.map .int)] st = .ok (.tuple (held.map fun v => optT (evenO n es ins held (wAt lab v) v))) st := by
  refine r_ret H rfl ?_
  have hsl := setsS_len n n
  have hp : 2 ^ n ≤ 2 ^ 10 := Nat.pow_le_pow_right (by decide) hn
  have hl := hh.len
  refine x_setO (ds := []) (e_lst es_nil (Nat.zero_le _)) (Nat.le_of_ble_eq_true rfl) ?_
  refine xs_for (φ := .int) (xs := held) (fun ys _ ρ s => s = st ∧ ∃ s3 s4 s5 s6, ρ = [.val (gD n es ins outs lab), .val (.tuple (held.map .int)), .lst (ys.map fun v => optT (evenO n es ins held (wAt lab v) v)), s3, s4, s5, s6]) (it_seqT e_var) ⟨rfl, _, _, _, _, rfl⟩ (fun ys x zs ρ s e h => ?_) (fun ρ' st' h => ?_)
  · obtain ⟨rfl, s3, s4, s5, s6, rfl⟩ := h
    have hx : x ∈ held := by rw [e]; exact List.mem_append_right _ (List.mem_cons_self ..)
    have hxr := mem_rng.mp (hh.rg x hx)
    obtain ⟨v, rfl⟩ : ∃ v : Nat, x = v := ⟨x.toNat, by omega⟩
    obtain ⟨hw, hw0, Y, hY⟩ := ok _ hx
    rw [Int.toNat_natCast] at hw
    have ly : ys.length ≤ 10 := by have := congrArg List.length e; rw [List.length_append] at this; omega
    let rows := (setsS n n).filter fun Y => Y.all fun y => decide (y ∈ held)
    have lr : rows.length ≤ 1024 := Nat.le_trans (len_f _ _) (by omega)
    refine ⟨[.val (gD n es ins outs lab), .val (.tuple (held.map .int)), .lst (ys.map fun v => optT (evenO n es ins held (wAt lab v) v)), .val (.int (v : Nat)), s4, s5, s6], rfl, [.val (gD n es ins outs lab), .val (.tuple (held.map .int)), .lst ((ys ++ [(v : Int)]).map fun v => optT (evenO n es ins held (wAt lab v) v)), .val (.int (v : Nat)), .val (.list (rows.map tD)), s5, s6], s, .inl ?_, rfl, _, _, _, _, rfl⟩
    refine x_set (st1 := s) (d := .list (rows.map tD)) ?_ (Nat.le_of_ble_eq_true rfl) ?_
    · refine e_comp (φ := tD) (xs := setsS n n) (fun Y => Y.all fun y => decide (y ∈ held)) tD (it_seqL (e_call (ea_cons (e_idx (y := .int 0) e_var e_con (idxT0 _ _)) ea_nil) (m_sets (k := k + 1) Hs hn))) (fun Z hZ => ⟨[.val (gD n es ins outs lab), .val (.tuple (held.map .int)), .lst (ys.map fun v => optT (evenO n es ins held (wAt lab v) v)), .val (.int (v : Nat)), s4, .val (tD Z), s6], rfl, i_some ?_, fun _ => e_var⟩) (szl (by omega))
      have lz := (setsS_vs hZ).len
      have h := e_cmp (cl := run gl tab (k + 2)) (gl := gl) (ρ := [.val (gD n es ins outs lab), .val (.tuple (held.map .int)), .lst (ys.map fun v => optT (evenO n es ins held (wAt lab v) v)), .val (.int (v : Nat)), s4, .val (tD Z), s6]) (o := false) (e_bi (t := .len) (z := .int ((Z.filter fun u => !decide (u ∈ held)).length : Nat)) (e_comp (st := s) (o := true) (own := [("one", 6)]) (tg := .name 6) (it := .seq (.var 5)) (co := .some (.cmp .nin (.var 6) (.var 1))) (e := .var 6) (φ := .int) (xs := Z) (fun u => !decide (u ∈ held)) .int (it_seqT e_var) (fun u _ => ⟨[.val (gD n es ins outs lab), .val (.tuple (held.map .int)), .lst (ys.map fun v => optT (evenO n es ins held (wAt lab v) v)), .val (.int (v : Nat)), s4, .val (tD Z), .val (.int u)], rfl, i_some (e_cmp e_var e_var (c_nin _ _)), fun _ => e_var⟩) (szl (by omega))) (by simp only [biD, List.length_map])) (e_con (d := .int 0)) (c_eq _ _)
      refine h.trans ?_
      rw [flt_none]
      simp only [Bool.not_not]
    · refine x_app (d := optT (evenO n es ins held (wAt lab (v : Int)) (v : Int))) rfl (e_idx (y := .int 0) (e_comp (φ := tD) (xs := rows) (fun Y => barsB n es ins held (wAt lab (v : Int)) (v : Int) Y) tD (it_seqL e_var) (fun Z hZ => ⟨[.val (gD n es ins outs lab), .val (.tuple (held.map .int)), .lst (ys.map fun v => optT (evenO n es ins held (wAt lab v) v)), .val (.int (v : Nat)), .val (.list (rows.map tD)), .val (tD Z), s6], rfl, i_some (e_call (ea_cons e_var (ea_cons e_var (ea_cons e_var (ea_cons e_var ea_nil)))) (m_bars (k := k) Hb Hr S he (by omega) hw hw0 (setsS_vs (List.mem_filter.mp hZ).1).ss (.inl rfl))), fun _ => e_var⟩) (szl (by omega))) e_con ?_) (by rw [List.length_map]; exact Nat.lt_of_lt_of_le (by omega) (szl (n := 1000) (by omega))) ?_
      · rw [hY]
        refine idxL (i := 0) ?_
        rw [List.getElem?_map]
        have : (rows.filter fun Y => barsB n es ins held (wAt lab (v : Int)) (v : Int) Y)[0]? = some Y := by
          rw [← List.head?_eq_getElem?, List.head?_filter, List.find?_filter, ← hY]
          unfold evenO
          congr 1
          funext Z
          rw [Bool.eq_iff_iff, decide_eq_true_eq, Bool.and_eq_true]
        rw [this]
        rfl
      · rw [List.map_append]
        exact x_nil
  · obtain ⟨rfl, s3, s4, s5, s6, rfl⟩ := h
    exact x_ret (e_bi e_bor rfl)
end
end Gra

end
section
set_option Elab.async false
set_option linter.all false
set_option maxRecDepth 100000
set_option maxHeartbeats 8000000
set_option autoImplicit false
/-! GraP: repr of plain data in the engine; a told flow or barrier; the vertices held by the greatest barrier. -/
namespace Gra
open PySem PySem.Spec PyProof.Rows L2 Eng
theorem ok_app {a b : Str} (ha : PyData.strOk a = true) (hb : PyData.strOk b = true) : PyData.strOk (a ++ b) = true := by
  show (a.cps ++ b.cps).all (· < 0x110000) = true
  rw [Array.all_append, Bool.and_eq_true]
  exact ⟨ha, hb⟩
theorem ok_ofS (s : String) : PyData.strOk (Str.ofString s) = true := by
  rw [Str.ofString_eq_toList]
  show (List.toArray _).all (· < 0x110000) = true
  rw [List.all_toArray, List.all_eq_true]
  intro c hc
  obtain ⟨x, _, rfl⟩ := List.mem_map.mp hc
  have := x.valid
  have h : x.toNat < 0x110000 := by
    rcases this with z | ⟨_, z⟩
    · have : x.toNat < 0xd800 := z
      omega
    · exact z
  exact decide_eq_true h
theorem ok_join : ∀ ts : List Str, (∀ t ∈ ts, PyData.strOk t = true) → PyData.strOk (Str.join (Str.ofString ", ") ts) = true
  | [], _ => by show (#[] : Array Nat).all _ = true; simp
  | [x], h => h x (List.mem_cons_self ..)
  | x :: y :: r, h => by
    show PyData.strOk (x ++ Str.ofString ", " ++ Str.join (Str.ofString ", ") (y :: r)) = true
    exact ok_app (ok_app (h x (List.mem_cons_self ..)) (ok_ofS _)) (ok_join (y :: r) fun t ht => h t (List.mem_cons_of_mem _ ht))
/-- small plain data: repr of it is at hand -/
structure Sm (k W : Nat) (d : D) : Prop where
  lay : d.canLay0 = true
  sho : d.showable = true
  dep : d.depth ≤ k
  ish : d.intsShort 13 = true
  wt : d.weight ≤ W
  ok : PyData.strOk d.shown = true
theorem Sm.mono {k W k' W' : Nat} {d : D} (h : Sm k W d) (hk : k ≤ k') (hw : W ≤ W') : Sm k' W' d := ⟨h.lay, h.sho, Nat.le_trans h.dep hk, h.ish, Nat.le_trans h.wt hw, h.ok⟩
theorem log2_lt40 {n : Nat} (h : n < 2 ^ 40) : n.log2 < 40 := by
  by_cases z : n = 0
  · subst z; decide
  · exact (Nat.log2_lt z).mpr h
theorem Sm.int {i : Int} (h1 : -999999999999 ≤ i) (h2 : i ≤ 999999999999) : Sm 0 40 (.int i) := by
  have hl : i.natAbs.log2 < 40 := log2_lt40 (by omega)
  refine ⟨rfl, ?_, Nat.le_refl _, ?_, ?_, ?_⟩
  · simp only [PyData.showable, decide_eq_true_eq]; omega
  · simp only [PyData.intsShort, decide_eq_true_eq]; exact PyData.shown_int_le2 h1 h2
  · simp only [PyData.weight]; split <;> omega
  · rw [PyData.shown_int]; exact ok_ofS _
theorem Sm.nat {i : Nat} (h : i ≤ 999999999999) : Sm 0 40 (.int (i : Nat)) := Sm.int (by omega) (by omega)
theorem Sm.str {x : Str} (h1 : PyData.strOk x = true) (h2 : PyData.strOk (reprText x) = true) : Sm 0 x.cps.size (.str x) :=
  ⟨h1, by simp only [PyData.showable], Nat.le_refl _, by simp only [PyData.intsShort], by simp only [PyData.weight]; exact Nat.le_refl _, by rw [PyData.shown_str]; exact h2⟩
theorem sm_all {k W : Nat} : ∀ {ds : List D}, (∀ d ∈ ds, Sm k W d) → PyData.canLayAll0 ds = true ∧ PyData.showableAll ds = true ∧ PyData.depthAll ds ≤ k ∧ PyData.intsShortAll 13 ds = true ∧ PyData.weightAll ds ≤ ds.length * (W + 1) ∧ ∀ t ∈ PyData.shownAll ds, PyData.strOk t = true
  | [], _ => ⟨rfl, rfl, Nat.zero_le _, rfl, Nat.zero_le _, fun _ h => nomatch h⟩
  | d :: ds, h => by
    have hd := h d (List.mem_cons_self ..)
    obtain ⟨a1, a2, a3, a4, a5, a6⟩ := sm_all fun e he => h e (List.mem_cons_of_mem _ he)
    refine ⟨?_, ?_, ?_, ?_, ?_, ?_⟩
    · simp only [PyData.canLayAll0, hd.lay, a1, Bool.and_self]
    · simp only [PyData.showableAll, hd.sho, a2, Bool.and_self]
    · simp only [PyData.depthAll]; exact Nat.max_le.mpr ⟨hd.dep, a3⟩
    · simp only [PyData.intsShortAll, hd.ish, a4, Bool.and_self]
    · have := hd.wt
      simp only [PyData.weightAll, List.length_cons, Nat.add_mul, Nat.one_mul]
      omega
    · intro t ht
      rw [PyData.shownAll_cons] at ht
      rcases List.mem_cons.mp ht with z | z
      · rw [z]; exact hd.ok
      · exact a6 t z
theorem Sm.tup {k W L : Nat} {ds : List D} (h : ∀ d ∈ ds, Sm k W d) (hl : ds.length ≤ L) : Sm (k + 1) (L * (W + 1)) (.tuple ds) := by
  obtain ⟨a1, a2, a3, a4, a5, a6⟩ := sm_all h
  refine ⟨?_, ?_, ?_, ?_, ?_, ?_⟩
  · simpa only [PyData.canLay0] using a1
  · simpa only [PyData.showable] using a2
  · simp only [PyData.depth]; omega
  · simpa only [PyData.intsShort] using a4
  · simp only [PyData.weight]; exact Nat.le_trans a5 (Nat.mul_le_mul_right _ hl)
  · rw [PyData.shown_tuple]
    exact ok_app (ok_app (ok_ofS _) (ok_join _ a6)) (ok_ofS _)
theorem sm_ints {L : Nat} {l : List Int} (h : ∀ x ∈ l, -999999999999 ≤ x ∧ x ≤ 999999999999) (hl : l.length ≤ L) : Sm 1 (L * 41) (.tuple (l.map .int)) :=
  Sm.tup (k := 0) (W := 40) (fun d hd => by
    obtain ⟨x, hx, rfl⟩ := List.mem_map.mp hd
    exact Sm.int (h x hx).1 (h x hx).2) (by rw [List.length_map]; exact hl)
theorem Sm.repr {k W : Nat} {ds : List D} (h : Sm k W (.tuple ds)) (hk : k ≤ 60) (hw : W ≤ 2 ^ 20) : reprD (.tuple ds) = some (.str (PyData.tuple ds).shown) := by
  have hl := PyData.leavesShort_of_canLay0 13 _ h.lay h.ish
  have hs := PyData.shown_fits (B := 13) (by omega) (by omega) hl (Nat.le_trans h.wt hw)
  have hd := PyData.hasDict_of_canLay _ h.lay
  unfold reprD
  rw [if_pos]
  simp only [Bool.and_eq_true, decide_eq_true_eq, Bool.not_eq_true']
  exact ⟨⟨⟨⟨h.lay, h.sho⟩, hd⟩, Nat.le_trans h.dep hk⟩, hs⟩
theorem eqD_self {d : D} (h : d.canLay0 = true) (hd : d.depth ≤ 64) : eqD d d = some true := by
  unfold eqD SeqAt.shaped
  rw [h, decide_eq_true hd]
  exact congrArg some (SeqAt.eqv_refl d h)
theorem Sm.eqS {k W : Nat} {d : D} (h : Sm k W d) : eqD (.str d.shown) (.str d.shown) = some true := eqD_self (by simpa only [PyData.canLay0] using h.ok) (Nat.zero_le _)
theorem Sm.eqD {k W : Nat} {d : D} (h : Sm k W d) (hk : k ≤ 64) : Eng.eqD d d = some true := eqD_self h.lay (Nat.le_trans h.dep hk)
theorem e_repr {cl : Calls} {gl : List D} {ρ : Eng.Env} {o : Bool} {a : E} {st st1 : Sta} {d r : D} (h : ev cl gl ρ false a st = .ok d st1) (hr : reprD d = some r) : ev cl gl ρ o (.repr a) st = .ok r st1 := by
  simp only [ev, h, R.bind_ok, hr, R.of_some]
theorem Sm.text {k W : Nat} {ds : List D} (h : Sm k W (.tuple ds)) (hk : k ≤ 60) (hw : W ≤ 2 ^ 20) : ∃ S : Str, reprD (.tuple ds) = some (.str S) ∧ Eng.eqD (.str S) (.str S) = some true := ⟨_, h.repr hk hw, h.eqS⟩
/-! ### graphs -/
theorem sm_word (w : Fin 4) : Sm 0 4 (wD w) := by
  have key : ∀ w : Fin 4, PyData.strOk (wdS w.val) = true ∧ PyData.strOk (reprText (wdS w.val)) = true ∧ (wdS w.val).cps.size ≤ 4 := by decide +kernel
  obtain ⟨h1, h2, h3⟩ := key w
  exact (Sm.str h1 h2).mono (Nat.le_refl _) h3
theorem sm_vs {n : Nat} {l : List Int} (h : VS n l) (hn : n ≤ 24) : Sm 1 (24 * 41) (.tuple (l.map .int)) :=
  sm_ints (fun x hx => by have := mem_rng.mp (h.rg x hx); omega) (Nat.le_trans h.len hn)
theorem sm_graph {pa : Bool} {n : Nat} {es : List (Int × Int)} {ins outs : List Int} {lab : List (Fin 4)} (R : Right pa n es ins outs lab) (hn : n ≤ 24) : Sm 3 420000 (gD n es ins outs lab) := by
  refine (Sm.tup (k := 2) (W := 83000) (L := 5) (fun d hd => ?_) (by show 5 ≤ 5; omega)).mono (by omega) (by omega)
  simp only [List.mem_cons, List.not_mem_nil, or_false] at hd
  rcases hd with rfl | rfl | rfl | rfl | rfl
  · exact (Sm.nat (by omega)).mono (by omega) (by omega)
  · refine (Sm.tup (k := 1) (W := 82) (L := 1000) (fun d hd => ?_) (by rw [List.length_map]; exact R.esl)).mono (by omega) (by omega)
    obtain ⟨e, he, rfl⟩ := List.mem_map.mp hd
    have := R.eok e he
    refine (Sm.tup (k := 0) (W := 40) (L := 2) (fun d hd => ?_) (by show 2 ≤ 2; omega))
    simp only [List.mem_cons, List.not_mem_nil, or_false] at hd
    rcases hd with rfl | rfl
    · exact Sm.int (by omega) (by omega)
    · exact Sm.int (by omega) (by omega)
  · exact (sm_vs R.vi hn).mono (by omega) (by omega)
  · exact (sm_vs R.vo hn).mono (by omega) (by omega)
  · refine (Sm.tup (k := 0) (W := 4) (L := 24) (fun d hd => ?_) (by rw [List.length_map, R.len]; exact hn)).mono (by omega) (by omega)
    obtain ⟨w, _, rfl⟩ := List.mem_map.mp hd
    exact sm_word w
theorem text_graph {pa : Bool} {n : Nat} {es : List (Int × Int)} {ins outs : List Int} {lab : List (Fin 4)} (R : Right pa n es ins outs lab) (hn : n ≤ 24) : ∃ S : Str, reprD (gD n es ins outs lab) = some (.str S) ∧ Eng.eqD (.str S) (.str S) = some true :=
  Sm.text (sm_graph R hn) (by omega) (by omega)
/-! ### flows and barriers, told -/
def fbD (b : Bool) : D := .str (if b then "flow" else "barrier")
theorem fbEmb : Emb fbD 0 := ⟨by decide +kernel, by decide +kernel⟩
theorem ty_fbD (b : Bool) : (tyD (fbD b) = "dict") = False := eq_false (by show ¬ ("str" = "dict"); decide)
theorem inst_fbD (b : Bool) : instD (fbD b) "str" = true := by show instT "str" "str" = true; decide
/-- whether it is a flow -/
def isF (n : Nat) (r : List Int × SL) : Bool := decide (¬ r.1.length < n)
section
variable {n : Nat} {es : List (Int × Int)} {ins outs : List Int} {lab : List (Fin 4)}
theorem flow_parts (r : List Int × SL) : ∃ a b : List D, flowD n es ins lab r = .tuple [fbD (isF n r), .tuple a, .tuple b] := by
  unfold flowD isF
  by_cases q : r.1.length < n
  · rw [if_pos q, decide_eq_false (not_not_intro q)]
    exact ⟨_, _, rfl⟩
  · rw [if_neg q, decide_eq_true q]
    exact ⟨_, _, rfl⟩
theorem held_vs (later : List Int) : VS n (heldL n later) := VS.sub List.filter_sublist
theorem mem_held {later : List Int} {r : Int} : r ∈ heldL n later ↔ r ∈ rng n ∧ r ∉ later := by
  unfold heldL
  rw [List.mem_filter]
  simp
/-- what the greatest barrier holds has sets that show it -/
theorem held_bars (g : GOk n es ins outs lab) {v : Int} (hv : v ∈ heldL n (soonest n es ins outs lab).1) :
    lab[v.toNat]? = some (wAt lab v) ∧ wAt lab v ≠ 0 ∧ ∃ Y, evenO n es ins (heldL n (soonest n es ins outs lab).1) (wAt lab v) v = some Y := by
  obtain ⟨K, _, h1, h2, _⟩ := soonest_lay (es := es) (ins := ins) (lab := lab) g.vo
  rw [h1] at hv ⊢
  obtain ⟨a1, a2⟩ := mem_held.mp hv
  have ho : ∀ x ∈ outs, x ∈ lay n es ins lab outs K := fun x hx => lay_mono (Nat.zero_le K) (show x ∈ lay n es ins lab outs 0 from hx)
  have A := g.ask (vs_lay g.vo K) ho a1 a2
  have hvr := mem_rng.mp a1
  obtain ⟨u, rfl⟩ : ∃ u : Nat, v = u := ⟨v.toNat, by omega⟩
  refine ⟨by rw [Int.toNat_natCast]; exact g.word a1, A.w0, bar_exists g.simple A g.n24 (fun r => mem_held) ?_⟩
  cases e : corrO n es ins (wAt lab (u : Int)) (u : Int) (lay n es ins lab outs K) with
  | none => rfl
  | some X =>
    refine absurd (h2 (K + 1) (u : Int) (lay_step.mpr (.inr (List.mem_filter.mpr ⟨a1, ?_⟩)))) a2
    unfold foundB corrV
    rw [e, decide_eq_false a2]
    rfl
/-- what is told can be compared -/
theorem sh_tD (l : List Int) : sh 1 (tD l) = true := sh_tuple fun d hd => by
  obtain ⟨x, _, rfl⟩ := List.mem_map.mp hd
  rfl
theorem flow_sh (r : List Int × SL) : sh 3 (flowD n es ins lab r) = true := by
  unfold flowD
  split
  · refine sh_tuple (n := 2) fun d hd => ?_
    simp only [List.mem_cons, List.not_mem_nil, or_false] at hd
    rcases hd with rfl | rfl | rfl
    · exact sh_mono (fbEmb.sh false) (by omega)
    · exact sh_mono (sh_tD _) (by omega)
    · refine sh_tuple (n := 1) fun d hd => ?_
      obtain ⟨x, _, rfl⟩ := List.mem_map.mp hd
      cases evenO n es ins (heldL n r.1) (wAt lab x) x with
      | none => exact rfl
      | some X => exact sh_tD X
  · refine sh_tuple (n := 2) fun d hd => ?_
    simp only [List.mem_cons, List.not_mem_nil, or_false] at hd
    rcases hd with rfl | rfl | rfl
    · exact sh_mono (fbEmb.sh true) (by omega)
    · refine sh_tuple (n := 1) fun d hd => ?_
      obtain ⟨x, _, rfl⟩ := List.mem_map.mp hd
      exact sh_tD x
    · exact sh_mono (sh_tD _) (by omega)
theorem sh_eqD {k : Nat} {d : D} (h : sh k d = true) (hk : k ≤ 64) : eqD d d = some true := by
  unfold sh at h
  rw [Bool.and_eq_true, decide_eq_true_eq] at h
  exact eqD_self h.1 (Nat.le_trans h.2 hk)
end
end Gra

end
section
set_option Elab.async false
set_option linter.all false
set_option maxRecDepth 100000
set_option maxHeartbeats 16000000
set_option autoImplicit false
namespace L_k04
open PySem PySem.Spec PyProof.Rows L2 Eng
open Gra
theorem LN : Lin tab 0 1 2 3 4 5 6 7 := ⟨⟨_, rfl⟩, ⟨_, rfl⟩, ⟨_, rfl⟩, ⟨_, rfl⟩, ⟨_, rfl⟩, ⟨_, rfl⟩, ⟨_, rfl⟩, ⟨_, rfl⟩⟩
theorem H8 : tab[8]? = some (.df (fdCorrection s_correction 6 7 0 1 5 2)) := rfl
theorem H9 : tab[9]? = some (.df (fdEven s_even_set 7 0 1 5 2)) := rfl
theorem H10 : tab[10]? = some (.df (fdFlow s_find_flow 8 9)) := rfl
theorem H11 : tab[11]? = some (.pr "_law_draw" 2 drawS) := rfl
theorem H12 : tab[12]? = some (.df (fdGraph s_law_graph 11)) := rfl
theorem H13 : tab[13]? = some (.df (fdPath s_law_path 11)) := rfl
theorem H14 : tab[14]? = some (.df (fdNear s_law_near)) := rfl
theorem H15 : tab[15]? = some (.df (fdLOdd s_law_odd 14)) := rfl
theorem H16 : tab[16]? = some (.df (fdDoes s_law_does 15)) := rfl
theorem H17 : tab[17]? = some (.df (fdSets s_law_sets)) := rfl
theorem H18 : tab[18]? = some (.df (fdSoon s_law_soonest 17 16)) := rfl
theorem H19 : tab[19]? = some (.df (fdBars s_law_bars 14)) := rfl
theorem H20 : tab[20]? = some (.df (fdBarrier s_law_barrier 17 19)) := rfl
def bTurn : Ss :=
 (.cons (.set 4 (.ite (.cmp .eq (.call 11 (.cons (.var 1) (.cons (.const (.int 2)) .nil))) (.const (.int 0))) (.call 12 (.cons (.var 1) (.cons (.idx (.lst (.cons (.const (.int 6)) (.cons (.const (.int 6)) (.cons (.const (.int 7)) .nil)))) (.call 11 (.cons (.var 1) (.cons (.const (.int 3)) .nil)))) (.cons (.const (.bool true)) .nil)))) (.call 13 (.cons (.var 1) (.cons (.const (.int 6)) .nil))))) (.cons (.set 5 (.repr (.var 4))) (.cons (.asg (.tup (.cons (.name 8) (.cons (.name 9) (.cons (.name 10) .nil)))) (.call 18 (.cons (.var 4) .nil))) (.cons (.set 6 (.ite (.cmp .eq (.bi .len (.var 10)) (.const (.int 0))) (.tup (.cons (.const (.str "flow")) (.cons (.var 8) (.cons (.var 9) .nil)))) (.tup (.cons (.const (.str "barrier")) (.cons (.var 10) (.cons (.call 20 (.cons (.var 4) (.cons (.var 10) .nil))) .nil)))))) (.cons (.set 7 (.call 10 (.cons (.var 4) .nil))) (.cons (.ite (.or (.not (.inst (.var 7) "tuple")) (.or (.not (.inst (.idx (.var 7) (.const (.int 0))) "str")) (.or (.cmp .ne (.var 7) (.var 6)) (.cmp .ne (.repr (.var 4)) (.var 5)))))
 (.cons (.ret (.const (.bool false))) .nil)
 .nil)
 (.cons (.ite (.cmp .gt (.bi .len (.comp [("part", 12)] (.name 12) (.seq (.slice (.var 7) (.some (.const (.int 1))) .none)) (.some (.not (.inst (.var 12) "tuple"))) (.var 12))) (.const (.int 0)))
 (.cons (.ret (.const (.bool false))) .nil)
 .nil)
 .nil)))))))
theorem m_turn {st : Sta} (hg : Good st) {s2 s3 s4 s5 s6 s7 s8 s9 s10 s11 s12 : Slot} : ∃ s4' s5' s6' s7' s8' s9' s10' st', execs (run gl tab 20) gl bTurn [.emp, .val stTok, s2, s3, s4, s5, s6, s7, s8, s9, s10, s11, s12] st = .ok (.nx [.emp, .val stTok, s2, s3, s4', s5', s6', s7', s8', s9', s10', s11, s12]) st' ∧ Good st' := by
  obtain ⟨i0, sa, hda, hi0, ga⟩ := d_ok (gl := gl) (k := 19) H11 hg (m := 2) (by decide) (by decide)
  obtain ⟨n, es, ins, outs, lab, pa, st1, g1, hn, R, hgr⟩ : ∃ (n : Nat) (es : List (Int × Int)) (ins outs : List Int) (lab : List (Fin 4)) (pa : Bool) (st1 : Sta), Good st1 ∧ n ≤ 7 ∧ Right pa n es ins outs lab ∧
      ev (run gl tab 20) gl [.emp, .val stTok, s2, s3, s4, s5, s6, s7, s8, s9, s10, s11, s12] false (.ite (.cmp .eq (.call 11 (.cons (.var 1) (.cons (.const (.int 2)) .nil))) (.const (.int 0))) (.call 12 (.cons (.var 1) (.cons (.idx (.lst (.cons (.const (.int 6)) (.cons (.const (.int 6)) (.cons (.const (.int 7)) .nil)))) (.call 11 (.cons (.var 1) (.cons (.const (.int 3)) .nil)))) (.cons (.const (.bool true)) .nil)))) (.call 13 (.cons (.var 1) (.cons (.const (.int 6)) .nil)))) st = .ok (gD n es ins outs lab) st1 := by
    have t : ev (run gl tab 20) gl [.emp, .val stTok, s2, s3, s4, s5, s6, s7, s8, s9, s10, s11, s12] false (.cmp .eq (.call 11 (.cons (.var 1) (.cons (.const (.int 2)) .nil))) (.const (.int 0))) st = .ok (.bool (decide ((i0 : Int) = 0))) sa := e_cmp (e_call (ea_cons e_var (ea_cons e_con ea_nil)) hda) e_con (c_eq _ _)
    by_cases q : i0 = 0
    · obtain ⟨i1, sb, hdb, hi1, gb⟩ := d_ok (gl := gl) (k := 19) H11 ga (m := 3) (by decide) (by decide)
      obtain ⟨m, hm, hm6⟩ : ∃ m : Int, ([.int 6, .int 6, .int 7] : List D)[i1]? = some (.int m) ∧ (0 < m ∧ m ≤ 7) := by
        have : i1 < 3 := by omega
        match i1, this with
        | 0, _ => exact ⟨6, rfl, by decide⟩
        | 1, _ => exact ⟨6, rfl, by decide⟩
        | 2, _ => exact ⟨7, rfl, by decide⟩
      obtain ⟨n, es, ins, outs, lab, st1, g1, hnm, R, h1⟩ := m_graph (gl := gl) (k := 18) (m := m) (pa := true) H11 H12 hm6.1 (by omega) gb
      exact ⟨n, es, ins, outs, lab, true, st1, g1, by omega, R, e_iteT (t.trans (by rw [decide_eq_true (by omega)])) (e_call (ea_cons e_var (ea_cons (e_idx (e_lst (es_cons e_con (es_cons e_con (es_cons e_con es_nil))) (szl (by show 3 ≤ 1000000; omega))) (e_call (ea_cons e_var (ea_cons e_con ea_nil)) hdb) (idxL hm)) (ea_cons e_con ea_nil))) h1)⟩
    · obtain ⟨n, es, ins, outs, lab, st1, g1, hnm, R, h1⟩ := m_path (gl := gl) (k := 18) (m := 6) H11 H13 (by decide) (by decide) ga
      exact ⟨n, es, ins, outs, lab, false, st1, g1, by omega, R, e_iteF (t.trans (by rw [decide_eq_false (by omega)])) (e_call (ea_cons e_var (ea_cons e_con ea_nil)) h1)⟩
  have hn24 : n ≤ 24 := by omega
  have G := R.gok hn24
  obtain ⟨S, hS, hSS⟩ := text_graph R hn24
  obtain ⟨K, _, hK, _, _⟩ := soonest_lay (es := es) (ins := ins) (lab := lab) G.vo
  have h18 := m_soon (gl := gl) (k := 16) (st := st1) G (by omega) H18 H17 H16 H15 H14
  have h10 := m_flow (gl := gl) (k := 15) (st := st1) G H10 H8 H9 LN
  have hh : (heldL n (soonest n es ins outs lab).1).length = 0 ↔ ¬ (soonest n es ins outs lab).1.length < n := by
    rw [hK]; exact held_iff (vs_lay G.vo K)
  obtain ⟨da, db, eF⟩ := flow_parts (n := n) (es := es) (ins := ins) (lab := lab) (soonest n es ins outs lab)
  have esh := sh_eqD (flow_sh (n := n) (es := es) (ins := ins) (lab := lab) (soonest n es ins outs lab)) (by omega)
  have fT : (soonest n es ins outs lab).1.length < n → flowD n es ins lab (soonest n es ins outs lab) = .tuple [.str "barrier", .tuple ((heldL n (soonest n es ins outs lab).1).map .int), .tuple ((heldL n (soonest n es ins outs lab).1).map fun v => optT (evenO n es ins (heldL n (soonest n es ins outs lab).1) (wAt lab v) v))] := fun q => by
    unfold flowD
    exact if_pos q
  have fF : ¬ (soonest n es ins outs lab).1.length < n → flowD n es ins lab (soonest n es ins outs lab) = .tuple [.str "flow", .tuple ((soonest n es ins outs lab).2.1.map tD), .tuple ((soonest n es ins outs lab).2.2.map .int)] := fun q => by
    unfold flowD
    exact if_neg q
  have h20 := fun q : (soonest n es ins outs lab).1.length < n => m_barrier (outs := outs) (gl := gl) (k := 17) (st := st1) H20 H17 H19 H14 G.simple G.esl (by omega) (held_vs (n := n) (soonest n es ins outs lab).1) (fun v hv => held_bars G hv)
  generalize flowD n es ins lab (soonest n es ins outs lab) = F at *
  generalize isF n (soonest n es ins outs lab) = kf at *
  generalize (heldL n (soonest n es ins outs lab).1).map (fun v => optT (evenO n es ins (heldL n (soonest n es ins outs lab).1) (wAt lab v) v)) = Y at *
  generalize heldL n (soonest n es ins outs lab).1 = held at *
  generalize soonest n es ins outs lab = so at *
  subst eF
  generalize gD n es ins outs lab = g at *
  refine ⟨.val g, .val (.str S), .val (.tuple [fbD kf, .tuple da, .tuple db]), .val (.tuple [fbD kf, .tuple da, .tuple db]), .val (.tuple (so.2.1.map tD)), .val (.tuple (so.2.2.map .int)), .val (.tuple (held.map .int)), st1, ?_, g1⟩
  unfold bTurn
  refine x_set hgr (Nat.le_of_ble_eq_true rfl) ?_
  refine x_set (e_repr e_var hS) (Nat.le_of_ble_eq_true rfl) ?_
  refine x_asg (e_call (ea_cons e_var ea_nil) h18) rfl ?_
  refine x_set (st1 := st1) (d := .tuple [fbD kf, .tuple da, .tuple db]) ?_ (Nat.le_of_ble_eq_true rfl) ?_
  · have t : ev (run gl tab 20) gl [.emp, .val stTok, s2, s3, .val g, .val (.str S), s6, s7, .val (.tuple (so.2.1.map tD)), .val (.tuple (so.2.2.map .int)), .val (.tuple (held.map .int)), s11, s12] false (.cmp .eq (.bi .len (.var 10)) (.const (.int 0))) st1 = .ok (.bool (decide ((held.length : Int) = 0))) st1 := e_cmp (x := .int held.length) (e_bi e_var (by simp only [biD, List.length_map])) e_con (c_eq _ _)
    by_cases q : so.1.length < n
    · rw [fT q]
      exact e_iteF (t.trans (by rw [decide_eq_false (by omega)])) (e_tup (es_cons e_con (es_cons e_var (es_cons (e_call (ea_cons e_var (ea_cons e_var ea_nil)) (h20 q)) es_nil))) (szl (by show 3 ≤ 1000000; omega)))
    · rw [fF q]
      exact e_iteT (t.trans (by rw [decide_eq_true (by omega)])) (e_tup (es_cons e_con (es_cons e_var (es_cons e_var es_nil))) (szl (by show 3 ≤ 1000000; omega)))
  refine x_set (e_call (ea_cons e_var ea_nil) h10) (Nat.le_of_ble_eq_true rfl) ?_
  refine x_skip2 (st1 := st1) (k := !true || (!true || (!true || !true))) (e_or2 (e_not (e_inst e_var (ty_tup _) (inst_tup _))) (e_or2 (e_not (e_inst (e_idx e_var e_con (idxT0 _ _)) (ty_fbD _) (inst_fbD _))) (e_or2 (e_cmp e_var e_var ((congrArg (Option.map (!·)) esh).trans rfl)) (e_cmp (e_repr e_var hS) e_var ((congrArg (Option.map (!·)) hSS).trans rfl))))) rfl ?_
  have eS : ev (run gl tab 20) gl [.emp, .val stTok, s2, s3, .val g, .val (.str S), .val (.tuple [fbD kf, .tuple da, .tuple db]), .val (.tuple [fbD kf, .tuple da, .tuple db]), .val (.tuple (so.2.1.map tD)), .val (.tuple (so.2.2.map .int)), .val (.tuple (held.map .int)), s11, s12] true (.slice (.var 7) (.some (.const (.int 1))) .none) st1 = .ok (.tuple [.tuple da, .tuple db]) st1 := rfl
  refine x_skip2 (st1 := st1) (k := decide ((0 : Int) < 0)) (e_cmp (x := .int 0) (e_bi (x := .list []) (e_comp (φ := PyData.tuple) (xs := [da, db]) (fun _ => false) PyData.tuple (it_seqT eS) (fun x _ => ⟨[.emp, .val stTok, s2, s3, .val g, .val (.str S), .val (.tuple [fbD kf, .tuple da, .tuple db]), .val (.tuple [fbD kf, .tuple da, .tuple db]), .val (.tuple (so.2.1.map tD)), .val (.tuple (so.2.2.map .int)), .val (.tuple (held.map .int)), s11, .val (.tuple x)], rfl, i_some (k := !true) (e_not (e_inst (x := .tuple x) e_var (ty_tup _) (inst_tup _))), fun z => nomatch z⟩) (szl (by show 2 ≤ 1000000; omega))) rfl) e_con (c_gt _ _)) rfl ?_
  exact x_nil
theorem gok1 (w : Fin 4) (hw : w ≠ 0) : GOk 1 [] [] [] [w] := by
  refine ⟨by decide, ⟨List.nodup_nil, fun _ h => nomatch h⟩, by decide, VS.nil, VS.nil, rfl, fun v hv _ => ?_⟩
  have hv' := mem_rng.mp hv
  obtain rfl : v = 0 := by omega
  exact ⟨hw, fun _ h => nomatch h⟩
theorem alone_ok : ∀ w : Fin 4, w ≠ 0 → isF 1 (soonest 1 [] [] [] [w]) = decide (w = 3) := by decide +kernel
theorem main (ns : List Int) (_ : ns.length ≤ 63) : ∃ st', execs (run gl tab 20) gl b_law rho0 (some (ns.map absN, seedN ns + 1)) = .ok (.ret (.bool true)) st' := by
  have hg := good_start ns (seed_range ns)
  generalize some (ns.map absN, seedN ns + 1) = st at hg
  show RT (run gl tab 20) gl b_law rho0 st
  refine rt_for (φ := .int) (xs := rng 2) (fun _ _ ρ s => Good s ∧ ∃ s2 s4 s5 s6 s7 s8 s9 s10, ρ = [.emp, .val stTok, s2, .emp, s4, s5, s6, s7, s8, s9, s10, .emp, .emp]) (evIt_rng1 (n := 2) e_con (low (by omega))) ⟨hg, _, _, _, _, _, _, _, _, rfl⟩ (fun ys x zs ρ s e h => ?_) (fun ρ' st' h => ?_)
  · obtain ⟨g, s2, s4, s5, s6, s7, s8, s9, s10, rfl⟩ := h
    obtain ⟨s4', s5', s6', s7', s8', s9', s10', st', hX, g'⟩ := m_turn g (s2 := .val (.int x)) (s3 := .emp) (s4 := s4) (s5 := s5) (s6 := s6) (s7 := s7) (s8 := s8) (s9 := s9) (s10 := s10) (s11 := .emp) (s12 := .emp)
    exact ⟨_, rfl, _, st', .inl hX, g', _, _, _, _, _, _, _, _, rfl⟩
  · obtain ⟨g, s2, s4, s5, s6, s7, s8, s9, s10, rfl⟩ := h
    have ec := e_comp (cl := run gl tab 20) (gl := gl) (st := st') (o := false) (ρ := [.emp, .val stTok, s2, .emp, s4, s5, s6, s7, s8, s9, s10, .emp, .emp]) (own := [("plane", 11)]) (tg := .name 11) (it := .seq (.lst (.cons (.const (.str "XY")) (.cons (.const (.str "XZ")) (.cons (.const (.str "YZ")) .nil))))) (co := .none) (e := .idx (.call 10 (.cons (.tup (.cons (.const (.int 1)) (.cons (.tup .nil) (.cons (.tup .nil) (.cons (.tup .nil) (.cons (.tup (.cons (.var 11) .nil)) .nil)))))) .nil)) (.const (.int 0)))
      (φ := wD) (xs := [1, 2, 3]) (fun _ => true) (fun w => fbD (decide (w = 3))) (it_seqL (e_lst (es_cons e_con (es_cons e_con (es_cons e_con es_nil))) (szl (by show 3 ≤ 1000000; omega)))) (fun w hw => ?_) (szl (by show 3 ≤ 1000000; omega))
    · refine rt_set (d := .list ([false, false, true].map fbD)) ec (Nat.le_of_ble_eq_true rfl) (rt_ret (e_cmp e_var (e_lst (es_cons e_con (es_cons e_con (es_cons e_con es_nil))) (szl (by show 3 ≤ 1000000; omega))) ((fbEmb.lst.eqD [false, false, true] [false, false, true]).trans (congrArg some (decide_eq_true rfl)))))
    · have w0 : w ≠ 0 := by
        simp only [List.mem_cons, List.not_mem_nil, or_false] at hw
        rcases hw with rfl | rfl | rfl <;> decide
      have h10 := m_flow (gl := gl) (k := 15) (st := st') (gok1 w w0) H10 H8 H9 LN
      obtain ⟨da, db, eF⟩ := flow_parts (n := 1) (es := []) (ins := []) (lab := [w]) (soonest 1 [] [] [] [w])
      rw [alone_ok w w0] at eF
      rw [eF] at h10
      exact ⟨[.emp, .val stTok, s2, .emp, s4, s5, s6, s7, s8, s9, s10, .val (wD w), .emp], rfl, i_none, fun _ => e_idx (e_call (ea_cons (e_tup (ds := [.int 1, .tuple [], .tuple [], .tuple [], .tuple [wD w]]) (es_cons e_con (es_cons (e_tup es_nil (Nat.zero_le _)) (es_cons (e_tup es_nil (Nat.zero_le _)) (es_cons (e_tup es_nil (Nat.zero_le _)) (es_cons (e_tup (es_cons (e_var rfl) es_nil) (szl (by show 1 ≤ 1000000; omega))) es_nil))))) (szl (by show 5 ≤ 1000000; omega))) ea_nil) h10) e_con (idxT0 _ _)⟩

end L_k04

end
set_option Elab.async false
set_option linter.all false
set_option maxRecDepth 100000
open PySem PySem.W PyProof.Rows
set_option maxHeartbeats 0 in
theorem PySem.Challenge.cw_everybranch_k04_whole_flows_and_barriers_holds : PySem.Challenge.rw_everybranch_k04_whole_flows_and_barriers.Holds := by
  w_on; o_law; k_head; (case hw => w_witness2)
  k_fill
  refine RepEnd.walk_ofRep (l := PySem.Challenge.rw_everybranch_k04_whole_flows_and_barriers) (n := 63) rfl (by decide) rfl (fun w h Y => PySem.W.kIn_of Y) ?F
  case F =>
    intro w mg fa h KX G hmg bare
    refine' L_k04.all_mk KX G hmg bare ?a0 ?l0 ?c0 ?k0 ?a1 ?l1 ?c1 ?k1 ?a2 ?l2 ?c2 ?k2 ?a3 ?l3 ?c3 ?k3 ?a4 ?l4 ?c4 ?k4 ?a5 ?l5 ?c5 ?k5 ?a6 ?l6 ?c6 ?k6 ?a7 ?l7 ?c7 ?k7 ?a8 ?l8 ?c8 ?k8 ?a9 ?l9 ?c9 ?k9 ?a10 ?l10 ?c10 ?k10 ?a11 ?l11 ?c11 ?k11 ?a12 ?l12 ?c12 ?k12 ?a13 ?l13 ?c13 ?k13 ?a14 ?l14 ?c14 ?k14 ?a15 ?l15 ?c15 ?k15 ?a16 ?l16 ?c16 ?k16 ?a17 ?l17 ?c17 ?k17 ?a18 ?l18 ?c18 ?k18 ?a19 ?l19 ?c19 ?k19 ?a20 ?l20 ?c20 ?k20 ?a21 ?l21 ?c21 ?k21 ?a22 ?l22 ?c22 ?k22 ?z0 ?z1 ?z2 ?z3 ?z4 ?z5 ?z6 ?z7 ?z8 ?z9 ?z10 ?z11 ?z12 ?z13 ?z14 ?z15 ?z16 ?z17 ?z18 ?z19 L_k04.main
    (case a0 => first | k_is | rfl | decide +kernel); (case l0 => first | k_is | rfl | decide +kernel); (case c0 => first | k_is | rfl | decide +kernel); (case k0 => first | k_is | rfl | decide +kernel); (case a1 => first | k_is | rfl | decide +kernel); (case l1 => first | k_is | rfl | decide +kernel); (case c1 => first | k_is | rfl | decide +kernel); (case k1 => first | k_is | rfl | decide +kernel); (case a2 => first | k_is | rfl | decide +kernel); (case l2 => first | k_is | rfl | decide +kernel); (case c2 => first | k_is | rfl | decide +kernel); (case k2 => first | k_is | rfl | decide +kernel); (case a3 => first | k_is | rfl | decide +kernel); (case l3 => first | k_is | rfl | decide +kernel); (case c3 => first | k_is | rfl | decide +kernel); (case k3 => first | k_is | rfl | decide +kernel); (case a4 => first | k_is | rfl | decide +kernel); (case l4 => first | k_is | rfl | decide +kernel); (case c4 => first | k_is | rfl | decide +kernel); (case k4 => first | k_is | rfl | decide +kernel); (case a5 => first | k_is | rfl | decide +kernel); (case l5 => first | k_is | rfl | decide +kernel); (case c5 => first | k_is | rfl | decide +kernel); (case k5 => first | k_is | rfl | decide +kernel); (case a6 => first | k_is | rfl | decide +kernel); (case l6 => first | k_is | rfl | decide +kernel); (case c6 => first | k_is | rfl | decide +kernel); (case k6 => first | k_is | rfl | decide +kernel); (case a7 => first | k_is | rfl | decide +kernel); (case l7 => first | k_is | rfl | decide +kernel); (case c7 => first | k_is | rfl | decide +kernel); (case k7 => first | k_is | rfl | decide +kernel); (case a8 => first | k_is | rfl | decide +kernel); (case l8 => first | k_is | rfl | decide +kernel); (case c8 => first | k_is | rfl | decide +kernel); (case k8 => first | k_is | rfl | decide +kernel); (case a9 => first | k_is | rfl | decide +kernel); (case l9 => first | k_is | rfl | decide +kernel); (case c9 => first | k_is | rfl | decide +kernel); (case k9 => first | k_is | rfl | decide +kernel); (case a10 => first | k_is | rfl | decide +kernel); (case l10 => first | k_is | rfl | decide +kernel); (case c10 => first | k_is | rfl | decide +kernel); (case k10 => first | k_is | rfl | decide +kernel); (case a11 => first | k_is | rfl | decide +kernel); (case l11 => first | k_is | rfl | decide +kernel); (case c11 => first | k_is | rfl | decide +kernel); (case k11 => first | k_is | rfl | decide +kernel); (case a12 => first | k_is | rfl | decide +kernel); (case l12 => first | k_is | rfl | decide +kernel); (case c12 => first | k_is | rfl | decide +kernel); (case k12 => first | k_is | rfl | decide +kernel); (case a13 => first | k_is | rfl | decide +kernel); (case l13 => first | k_is | rfl | decide +kernel); (case c13 => first | k_is | rfl | decide +kernel); (case k13 => first | k_is | rfl | decide +kernel); (case a14 => first | k_is | rfl | decide +kernel); (case l14 => first | k_is | rfl | decide +kernel); (case c14 => first | k_is | rfl | decide +kernel); (case k14 => first | k_is | rfl | decide +kernel); (case a15 => first | k_is | rfl | decide +kernel); (case l15 => first | k_is | rfl | decide +kernel); (case c15 => first | k_is | rfl | decide +kernel); (case k15 => first | k_is | rfl | decide +kernel); (case a16 => first | k_is | rfl | decide +kernel); (case l16 => first | k_is | rfl | decide +kernel); (case c16 => first | k_is | rfl | decide +kernel); (case k16 => first | k_is | rfl | decide +kernel); (case a17 => first | k_is | rfl | decide +kernel); (case l17 => first | k_is | rfl | decide +kernel); (case c17 => first | k_is | rfl | decide +kernel); (case k17 => first | k_is | rfl | decide +kernel); (case a18 => first | k_is | rfl | decide +kernel); (case l18 => first | k_is | rfl | decide +kernel); (case c18 => first | k_is | rfl | decide +kernel); (case k18 => first | k_is | rfl | decide +kernel); (case a19 => first | k_is | rfl | decide +kernel); (case l19 => first | k_is | rfl | decide +kernel); (case c19 => first | k_is | rfl | decide +kernel); (case k19 => first | k_is | rfl | decide +kernel); (case a20 => first | k_is | rfl | decide +kernel); (case l20 => first | k_is | rfl | decide +kernel); (case c20 => first | k_is | rfl | decide +kernel); (case k20 => first | k_is | rfl | decide +kernel); (case a21 => first | k_is | rfl | decide +kernel); (case l21 => first | k_is | rfl | decide +kernel); (case c21 => first | k_is | rfl | decide +kernel); (case k21 => first | k_is | rfl | decide +kernel); (case a22 => first | k_is | rfl | decide +kernel); (case l22 => first | k_is | rfl | decide +kernel); (case c22 => first | k_is | rfl | decide +kernel); (case k22 => first | k_is | rfl | decide +kernel); (case z0 => first | k_is | rfl | decide +kernel); (case z1 => first | k_is | rfl | decide +kernel); (case z2 => first | k_is | rfl | decide +kernel); (case z3 => first | k_is | rfl | decide +kernel); (case z4 => first | k_is | rfl | decide +kernel); (case z5 => first | k_is | rfl | decide +kernel); (case z6 => first | k_is | rfl | decide +kernel); (case z7 => first | k_is | rfl | decide +kernel); (case z8 => first | k_is | rfl | decide +kernel); (case z9 => first | k_is | rfl | decide +kernel); (case z10 => first | k_is | rfl | decide +kernel); (case z11 => first | k_is | rfl | decide +kernel); (case z12 => first | k_is | rfl | decide +kernel); (case z13 => first | k_is | rfl | decide +kernel); (case z14 => first | k_is | rfl | decide +kernel); (case z15 => first | k_is | rfl | decide +kernel); (case z16 => first | k_is | rfl | decide +kernel); (case z17 => first | k_is | rfl | decide +kernel); (case z18 => first | k_is | rfl | decide +kernel); (case z19 => first | k_is | rfl | decide +kernel)

