import PyProof.Rows.All
import Wide.All
import OpenK.AllK
import Wide.FinOn
import HandS.ForMost
import HandS.Codes
import HandS.Evl
import HandS.IsInst
import HandS.SortInts
import HandS.TupAny
import HandS.TupMul
import HandS.Conv
import HandS.SetFor
import HandS.Style
import HandS.Strs
import HandS.Dict
import KE.GoesMore
import KE.GoesEnum
import KE.DataFind
import HandS.Sort
import KE.KDictPairs
import HandS.Deep
import KE.DataMinMax
import HandS.SortOrd
import KE.KSortTupG
import HandS.Exc
import HandS.ExcInit
import HandS.ExcOwn
import HandS.ExcIs
import HandS.ExcField
import HandS.WordsExc
import HandS.ClsMeth
import KE.KExcIs
import KE.KIsAll
import KE.DataCmp
import PyProof.StrOps2
import KE.KDflt
import HandS.Lambda
import HandS.EndOwn
import PySem.Challenge.RW_keeprunning_k15_texts_refused
set_option Elab.async false
set_option linter.all false
set_option maxRecDepth 100000
set_option maxHeartbeats 2000000
/-! Rk: rules that the hand layer lacks: extend by any row, enumerate of a tuple, sets of ints. -/
namespace Rk
open PySem PySem.Spec PyProof.Rows L2
/-! ### extend by a list or a tuple -/
theorem ext_meets {l b : Addr} {mine its2 : Array Value} {n : Nat} {T : String} (hT : T = "list" ∨ T = "tuple") (hz : mine.size + its2.size ≤ sizeLine) :
    Meets (Builtin.«list.extend» ⟨[.ref l, .ref b], []⟩) fun _ R s => s.heap.get? l = some { cls := .type "list", data := .seq mine n } ∧ (∃ o n2, s.heap.get? b = some o ∧ o.cls = .type T ∧ o.data = .seq its2 n2) ∧
      R (.ok (.ret .none)) { s with heap := s.heap.update l (Obj.mapSeq fun x => x ++ its2) } := fun prog w A R s h => by
  obtain ⟨hl, ⟨o, n2, ho, hc, hd⟩, h⟩ := h
  show wpAny _ A.in1 (Builtin.List.listExtendWith (.ref l) (.ref b) .none) _ _ s
  unfold Builtin.List.listExtendWith
  refine wpAny_bind (wpAny_typeOf ⟨o, ho, hc⟩ ?_)
  have seqT : (Builtin.List.listSameRef (.ref l) (.ref b) || Value.type T == Value.type "list" || Value.type T == Value.type "tuple") = true := by
    rcases hT with rfl | rfl
    · simp
    · simp
  simp only [seqT, if_true]
  refine wpAny_bind ?_
  unfold Builtin.List.listItems
  refine wpAny_bind (wpAny_seqItems ho hd (wpAny_pure ?_))
  refine wpAny_bind ?_
  refine wpAny_bind (wpAny_seqItems hl rfl (wpAny_pure ?_))
  have notLong : (!mine.isEmpty && Builtin.List.listTooLong (mine.size + its2.size)) = false := by
    rw [notLongL hz, Bool.and_false]
  simp only [notLong, Bool.false_eq_true, if_false]
  first
  | (refine wpAny_bind (wpAny_pure ?_)
     show wpAny _ A.in1 (updateSeq l (· ++ its2) >>= fun _ => ret Value.none) _ _ s
     exact wpAny_bind (wpAny_updateSeq hl rfl (wpAny_pure h)))
  | (show wpAny _ A.in1 (updateSeq l (· ++ its2) >>= fun _ => ret Value.none) _ _ s
     exact wpAny_bind (wpAny_updateSeq hl rfl (wpAny_pure h) (by omega) (by rw [Array.size_append]; omega)))
def rExtendA (K : PySem.W.Frag) : V → List V → Hp → VK → Prop := fun x vs H Q => ∃ l b xs zs, x = .ref l ∧ vs = [.ref b] ∧ H l = some (.lst xs) ∧ (SqL K H b zs ∨ SqT K H b zs) ∧ xs.length + zs.length ≤ sizeLine ∧ Q .non (upd H l (.lst (xs ++ zs)))
theorem mt_extendA {X : Cx} : MtM X "list.extend" (rExtendA X.K) := by
  intro pins s σ H x vs v us Q I rx rv h
  obtain ⟨l, b, xs, zs, rfl, rfl, hH, hB, hz, q⟩ := h
  cases rx
  obtain ⟨u, rfl, ru⟩ := rv.one
  cases ru
  obtain ⟨z, its, n, r, hl, e⟩ := I.lstM hH
  obtain ⟨T, hT, its2, o, n2, r2, ho, hc, hd⟩ : ∃ T, (T = "list" ∨ T = "tuple") ∧ ∃ (its2 : List Value) (o : Obj) (n2 : Nat), Vals zs its2 ∧ s.heap.get? b = some o ∧ o.cls = .type T ∧ o.data = .seq its2.toArray n2 := by
    rcases hB with hB | hB
    · obtain ⟨its2, r2, ⟨o, n2, ho, hc, _, hd⟩, _⟩ := I.list hB
      exact ⟨"list", .inl rfl, its2, o, n2, r2, ho, hc, hd⟩
    · obtain ⟨its2, r2, ⟨o, ho, hc, n2, hd⟩, _⟩ := I.tuple hB
      exact ⟨"tuple", .inr rfl, its2, o, n2, r2, ho, hc, hd⟩
  have l2 := r2.length
  have hsz : its.toArray.size + its2.toArray.size ≤ sizeLine := by rw [List.size_toArray, List.size_toArray]; omega
  refine call_meets F.slot_list_extend ⟨_, e, rfl⟩ F.entry_list_extend (F.args_list_extend_2 _ _) (ext_meets hT hsz) ⟨e, ⟨o, n2, ho, hc, hd⟩, ?_⟩
  refine ⟨.non, _, I.lset (its' := its ++ its2) hH e (by simp) (r.append r2) (by rw [List.length_append]; omega), rfl, q⟩

/-! ### enumerate of a tuple -/
set_option maxHeartbeats 4000000 in
theorem enumNew_meets {v : Value} {o : Obj} {Hh : Heap → Prop} (B : Begins v o Hh) :
    Meets (Builtin.«enumerate.__new__» ⟨[.type "enumerate", v], []⟩) fun _ R s => Hh s.heap ∧
      R (.ok (.ret (.ref (s.heap.push o).objs.size))) { s with heap := (s.heap.push o).push { cls := .type "enumerate", data := .fields #[.none, .bool false, .ref s.heap.objs.size, rawInt 0, .none, .none] } } :=
  .of_wp fun prog w A R s h => by
    obtain ⟨hp, gs, dr, tk, os⟩ := s
    obtain ⟨h1, h⟩ := h
    have hsub := sub_enumerate
    have itr : ∀ {A' : Around} {E : Value → Shared → Prop} {Q : Value → Shared → Prop}, Q (.ref hp.objs.size) ⟨hp.push o, gs, dr, tk, os⟩ → wpAny (model prog w) A' (pyIter v) Q E ⟨hp, gs, dr, tk, os⟩ := fun q => B.iter prog w _ _ ⟨hp, gs, dr, tk, os⟩ _ h1 q
    wp_walk using itr
    refine wpAny_stack_any fun st => wpAny_pure ?_
    split
    · rename_i c _ _ _ _ _
      cases (c == Value.type "enumerate") <;> (wp_walk using itr; exact ⟨_, rfl, h⟩)
    · wp_walk using itr
      exact ⟨_, rfl, h⟩
section
variable {prog : Program} {w : World} {A : Around} {E : Value → Shared → Prop} {s : Shared}
theorem call_enumB {v : Value} {o : Obj} {Hh : Heap → Prop} {Q : Value → Shared → Prop} (B : Begins v o Hh) (h1 : Hh s.heap)
    (h : ∀ h', IsEnum h' (s.heap.objs.size + 1) s.heap.objs.size 0 .none → h'.get? s.heap.objs.size = some o → (∀ b u, s.heap.get? b = some u → h'.get? b = some u) → Q (.ref (s.heap.objs.size + 1)) { s with heap := h' }) :
    wpAny (model prog w) A (call (.type "enumerate") [v]) Q E s := by
  have hz : (s.heap.push o).objs.size = s.heap.objs.size + 1 := Heap.size_push ..
  refine callType_new F.called_enumerate (by decide) (F.typeCall_enumerate_1 _) (F.newCall_enumerate_1 _) (fun obj => F.args_object_init_2 obj _) F.entry_enumerate_new (enumNew_meets B) ⟨h1, ?_⟩
  show _ ∧ _
  rw [hz]
  have made : IsEnum ((s.heap.push o).push { cls := .type "enumerate", data := .fields #[.none, .bool false, .ref s.heap.objs.size, rawInt 0, .none, .none] }) (s.heap.objs.size + 1) s.heap.objs.size 0 .none := by
    have q := Heap.get?_push_size (s.heap.push o) (o := { cls := .type "enumerate", data := .fields #[.none, .bool false, .ref s.heap.objs.size, rawInt 0, .none, .none] }) rfl
    rw [hz] at q
    exact q
  exact ⟨⟨_, made, rfl⟩, h _ made (Heap.get?_push_of_some _ (Heap.get?_push_size _ B.free)) fun b u x => Heap.get?_push_of_some _ (Heap.get?_push_of_some _ x)⟩
end
/-- the tuple at a, its items in new pairs with their places -/
def IteT (K : PySem.W.Frag) (a : Addr) : It :=
  ⟨fun i H => ∃ (xs : List V) (x : V), SqT K H a xs ∧ xs[i]? = some x, fun i H v H' => ∃ T x, v = .ref T ∧ H T = none ∧ H' = upd H T (.tup [.int (i : Nat), x]) ∧ ∀ xs, SqT K H a xs → xs[i]? = some x, fun i H => ∃ xs : List V, SqT K H a xs ∧ xs.length ≤ i⟩
theorem turn_enumT {P : Program} {w : World} {K : PySem.W.Frag} {elts : List Expr} {kk : Nat} {tpos : Pos} (a e it : Addr) :
    Turn P w K (.Tuple elts kk tpos) (IteT K a) [e, it] e fun i h => (∃ old, IsEnum h e it ((i : Nat) : Int) old) ∧ h.IsTupleIter it a i ∧ e ≠ it ∧ a ≠ it ∧ a ≠ e where
  mem := by simp
  obj := fun i h st b hb => by
    obtain ⟨⟨old, he⟩, ⟨o, ho, hc, hd⟩, _⟩ := st
    have e' : b = e ∨ b = it := by simpa using hb
    rcases e' with z | z
    · rw [z]; exact ⟨_, he, fun v q => nomatch q⟩
    · rw [z]; exact ⟨o, ho, fun v q => by rw [hd] at q; cases q⟩
  keep := fun i h h' st k => by
    obtain ⟨⟨old, he⟩, hi, hne⟩ := st
    exact ⟨⟨old, k e (by simp) _ he⟩, hi.at fun o q => k it (by simp) o q, hne⟩
  item := by
    intro X hP hw hK hc i pins s σ H E I hf st hg
    subst hP hw hK
    obtain ⟨⟨old, he⟩, hit, hne, hai, hae⟩ := st
    obtain ⟨xs, x, hq, hx⟩ := hg
    obtain ⟨its, rv, p, hz⟩ := I.tuple hq
    obtain ⟨u, hu, ru⟩ := rv.get hx
    have hel : e < s.heap.objs.size := Heap.lt_size he
    have hil : it < s.heap.objs.size := by
      obtain ⟨_, q, _⟩ := hit
      exact Heap.lt_size q
    have ht : s.heap.IsTuple a its.toArray := p
    have hlt : i < its.toArray.size := by
      have q := (List.getElem?_eq_some_iff.mp hu).1
      rw [List.size_toArray]
      exact q
    have hh : X.A.in1.handled = none := I.ok.hd hc
    have D := Draws.tuple (prog := X.prog) (w := X.w) (A := X.A.in1) hh it a hai its.toArray
    refine wpAny_pyNext_enum_itemD D he ⟨hit, ht⟩ hlt hne (by simp only [List.mem_cons, List.not_mem_nil, or_false, not_or]; exact ⟨hne, Ne.symm hae⟩) fun x' h' tk hPx ho st' hT hsz hk => ?_
    have ex : x' = u := by
      have q : its.toArray[i]? = some x' := hPx
      rw [List.getElem?_toArray, hu] at q
      exact (Option.some.inj q).symm
    subst ex
    refine ⟨_, rfl, wpAny_letOwnedTupleGo_enum (s := { s with heap := h', toks := tk + 1 }) ho fun h'' he' sb => ?_⟩
    have hT2 : h''.get? s.heap.objs.size = some { cls := .type "tuple", data := .seq #[.int i tk, x'] } := (sb.2 _ (Nat.ne_of_gt hel)).trans hT
    have made : ObjOk X.prog X.w (upd H s.heap.objs.size (.tup [.int (i : Nat), x])) h'' s.heap.objs.size (.tup [.int (i : Nat), x]) :=
      ⟨by show 2 ≤ sizeLine; decide, [.int i tk, x'], .cons ⟨_, rfl⟩ (.cons ru .nil), ⟨_, hT2, rfl, _, rfl⟩⟩
    have I1 : Inv X pins σ (upd H s.heap.objs.size (.tup [.int (i : Nat), x])) { s with heap := h'', toks := tk + 1 } :=
      I.turnedNew (ch := [e, it]) (fun b ob hb q => (sb.2 b fun z => hb (by simp [z])).trans (hk b ob (fun z => hb (by simp [z])) (fun z => hb (by simp [z])) q)) hf (Nat.le_refl _) made
    refine ⟨.ref s.heap.objs.size, _, I1, rfl, ⟨_, x, rfl, I.hok.fresh (Nat.le_refl _), rfl, fun ys hy => by rw [I.tuple_inj hy hq]; exact hx⟩, ⟨⟨x', ?_⟩, st'.1.at fun o q => (sb.2 it (Ne.symm hne)).trans q, hne, hai, hae⟩, fun b hb => ?_⟩
    · have e1 : ((i + 1 : Nat) : Int) = (i : Int) + 1 := by omega
      rw [e1]
      exact he'
    · have e' : b = e ∨ b = it := by simpa using hb
      have hb' : b < s.heap.objs.size := by
        rcases e' with z | z
        · rw [z]; exact hel
        · rw [z]; exact hil
      rw [upd_ne (Nat.ne_of_lt hb')]
      exact (hf b hb).1
  done := by
    intro X hP hw hK hc i pins s σ H E I hf st hg
    subst hP hw hK
    obtain ⟨⟨old, he⟩, hit, hne, hai, hae⟩ := st
    obtain ⟨xs, hq, hx⟩ := hg
    obtain ⟨its, rv, p, hz⟩ := I.tuple hq
    obtain ⟨f0, f1, f2, f3, f4, f5⟩ := hf it (by simp)
    have hl := rv.length
    have ht : s.heap.IsTuple a its.toArray := p
    have hh : X.A.in1.handled = none := I.ok.hd hc
    have hT : s.TypeIs (.ref e) "enumerate" := ⟨_, he, rfl⟩
    unfold pyNext
    refine wpAny_bind (wpAny_attempt (wpAny_callSpecial?_slot (name := Str.ofString "__next__") hT F.slot_enumerate_next (wpAny_call_entry F.slot_enumerate_next hT F.entry_enumerate_next ?_ (F.args_enumerate_next_1 _))))
    show wpAny _ _ (field (.ref e) 2 >>= _) _ _ _
    refine wpAny_bind (wpAny_field he rfl (x := .ref it) rfl ?_)
    refine wpAny_bind (wpAny_nextOf_tuple_end (items := its.toArray) hh hit ht (by rw [List.getElem?_toArray]; exact List.getElem?_eq_none (by omega)) fun h' x he' hx' => ?_)
    obtain ⟨o, ho, hcl⟩ := hx'
    refine wpAny_bind (wpAny_isInstance (T := "StopIteration") (b := true) ⟨o, ho, hcl⟩ isSubtype_stop ?_)
    exact wpAny_pure ⟨rfl, I.turned (t' := s.toks) (fun b o hb q => he' b o hb q) f0 f1 f3 f4 f5⟩
  self := fun A i s Q E st h => by
    obtain ⟨⟨_, he⟩, _⟩ := st
    exact wpAny_pyIter_enum he h
def iEnumT (K : PySem.W.Frag) (ta : TA) : TI := fun σ H R => ta σ H fun vs H1 => ∃ a xs, vs = [.ref a] ∧ SqT K H1 a xs ∧ R (IteT K a) H1
theorem pi_enumT {X : Cx} {e : Expr} {ta : TA} {p pos tpos : Pos} {elts : List Expr} {kk : Nat} (hg : Gl X "enumerate") (hm : X.mg "enumerate" = none) (ha : PA X [e] ta) (hs : starEach [e] X.env = [(false, eval e X.env)] := by rfl) :
    PI X (.Tuple elts kk tpos) (.Call (.Name "enumerate" p) [e] [] pos) (iEnumT X.K ta) := by
  refine ⟨fun pins s σ H R I h => ?_⟩
  refine Call_ (ld_blt I hg hm boot_enumerate (PyProof.Rows.callWith_type1 (thn (ha.run pos pins s σ H _ I h) fun us s1 ⟨vs, H1, I1, r1, q1⟩ => ?_) hs rfl))
  obtain ⟨a, xs, ex, hq, q⟩ := q1
  subst ex
  cases r1 with
  | cons r rr =>
    cases rr
    cases r
    obtain ⟨its, rv, p', hz⟩ := I1.tuple hq
    have ht : s1.heap.IsTuple a its.toArray := p'
    have hal : a < s1.heap.objs.size := by
      obtain ⟨o, ho, _⟩ := p'
      exact Heap.lt_size ho
    refine call_enumB (begins_tuple a its.toArray) ht fun h' he hit hk => wpAny_pyIter_enum he ?_
    have I2 : Inv X pins σ H1 { s1 with heap := h' } := I1.kept (t' := s1.toks) hk
    refine ⟨s1.heap.objs.size + 1, [s1.heap.objs.size + 1, s1.heap.objs.size], _, _, H1, rfl, I2, turn_enumT a (s1.heap.objs.size + 1) s1.heap.objs.size, ⟨⟨.none, he⟩, ⟨_, hit, rfl, rfl⟩, Nat.succ_ne_self _, Nat.ne_of_lt hal, Nat.ne_of_lt (Nat.lt_succ_of_lt hal)⟩, fun b hb => ?_, q⟩
    have e' : b = s1.heap.objs.size + 1 ∨ b = s1.heap.objs.size := by simpa using hb
    have hle : s1.heap.objs.size ≤ b := by
      rcases e' with z | z
      · rw [z]; exact Nat.le_add_right _ _
      · rw [z]; exact Nat.le_refl _
    exact I1.fpOk hle (I1.hok.fresh hle)
end Rk

/-! Rk2: set(..) of a list or a tuple of ints, as a value. -/
namespace Rk
open PySem PySem.Spec PyProof.Rows L2
/-- a set that was just made -/
abbrev mtSet (w : World) : Obj := { cls := .type "set", dict := none, data := .set #[] 0 (.fresh 0 0 (!w.params.followText "set-order")) }
section
variable {P : Program} {w : World} {A : Around} {E : Value → Shared → Prop} {s : Shared}
set_option maxHeartbeats 6400000 in
theorem set_of_list {l : Addr} {items : Array Value} (ns : List Int) {Q : Value → Shared → Prop} (hh : A.handled = none) (hl : s.heap.IsList l items) (hin : IntsAre items.toList ns) (few : ns.length + 1 < scanBound)
    (h : ∀ (h' : Heap) (tk c : Nat), SetR w h' s.heap.objs.size (fun j => decide (j ∈ ns)) c → c ≤ ns.length → (∀ b o, s.heap.get? b = some o → h'.get? b = some o) → Q (.ref s.heap.objs.size) { s with heap := h', toks := tk }) :
    wpAny (model P w) A (call (.type "set") [.ref l]) Q E s := by
  have size : items.size = ns.length := by
    have q := IntsAre.length hin
    rwa [Array.length_toList] at q
  obtain ⟨c, tl, hmro⟩ := F.called_set.mro
  have facts := And.intro F.called_set.made (And.intro F.called_set.sub (And.intro F.called_set.notType F.called_set.canCreate))
  obtain ⟨hmade, hsub, h1, h2⟩ := facts
  refine wpAny_call (codeAny_of_tree ?_)
  show wpAny _ _ (callAny (.type "set") _) _ _ _
  refine wpAny_pure ⟨Code.quiet_builtin _ (by decide +kernel), codeAny_builtin F.entry_type_call ?_⟩
  rw [Around.under_plain (weight_type_call_type "set" [.ref l] []) rfl]
  have hct := F.typeCall_set_1 (.ref l)
  repeat (any_goals (first | assumption | wp_step))
  refine codeAny_mono (code_set_led1 (.ref l) (E := E) (Q₁ := fun obj t => obj = .ref s.heap.objs.size ∧ t = { s with heap := s.heap.push (mtSet w) }) ⟨rfl, rfl⟩) fun r t hr => ?_
  cases r with
  | error e => exact hr
  | ok fl =>
    cases fl with
    | ret obj =>
      obtain ⟨rfl, rfl⟩ := hr
      have made : (s.heap.push (mtSet w)).get? s.heap.objs.size = some (mtSet w) := Heap.get?_push_size _ rfl
      have isSet : Shared.TypeIs { s with heap := s.heap.push (mtSet w) } (.ref s.heap.objs.size) "set" := ⟨_, made, rfl⟩
      have hli := F.called_set.init.lookup
      have hbi := F.called_set.init.bind (.ref s.heap.objs.size)
      repeat (any_goals (first | assumption | wp_step))
      refine codeAny_mono (codeAny_call_builtin (R := wants (fun r t => r = .none ∧ ∃ h' tk c, t = { s with heap := h', toks := tk } ∧ SetR w h' s.heap.objs.size (fun j => decide (j ∈ ns)) c ∧ c ≤ ns.length ∧ ∀ b o, s.heap.get? b = some o → h'.get? b = some o) E)
        F.called_set.init.plain F.entry_set_init (check_set_init_1 isSet ?_)) fun r2 t2 hr2 => ?_
      · obtain ⟨⟨ocls, odict, odata, oslots⟩, hol, hcl, nl, hdl⟩ := hl
        simp only at hcl hdl
        subst hcl
        subst hdl
        have hol' : (s.heap.push (mtSet w)).get? l = some { cls := .type "list", dict := odict, data := .seq items nl, slots := oslots } := Heap.get?_push_of_some _ hol
        have noSet := F.sub_list_set
        have noFrz := F.sub_list_frozenset
        have noDict : (Value.type "list" == Value.type "dict") = false := by decide
        have stays : (s.heap.push (mtSet w)).IsList l items := ⟨_, hol', rfl, nl, rfl⟩
        unfold Builtin.«set.__init__» noKeywords Builtin.Frozenset.updateFrom
        generalize hPI : pyIter = PI
        wp_walk
        subst hPI
        refine wpAny_pyIter_list stays ?_
        refine wpAny_bind (wpAny_runValue ?_)
        have lS : l < s.heap.objs.size := Heap.lt_size hol
        have h3 : A.in1.in1.in1.handled = none := by simp [hh]
        have sz : (s.heap.push (mtSet w)).objs.size = s.heap.objs.size + 1 := Heap.size_push ..
        have notIt : l ≠ (s.heap.push (mtSet w)).objs.size := by
          rw [sz]
          exact Nat.ne_of_lt (Nat.lt_succ_of_lt lS)
        have apart : s.heap.objs.size ∉ [(s.heap.push (mtSet w)).objs.size, l] := by
          rw [sz]
          simp only [List.mem_cons, List.mem_singleton, List.not_mem_nil, or_false, not_or]
          exact ⟨Nat.ne_of_lt (Nat.lt_succ_self _), Nat.ne_of_gt lS⟩
        have vals : ∀ (i : Nat) (v : Value), items[i]? = some v → ∃ k t, ns[i]? = some k ∧ v = .int k t := fun i v hv => by
          have hi : i < ns.length := by
            rw [← size]
            exact (Array.getElem?_eq_some_iff.mp hv).1
          obtain ⟨t, e⟩ := PyProof.Rows.IntsAre.int_at hin i v (by rw [Array.getElem?_toList]; exact hv)
          refine ⟨ns[i], t, List.getElem?_eq_getElem hi, ?_⟩
          rw [e, List.getD_eq_getElem?_getD, List.getElem?_eq_getElem hi] <;> rfl
        refine set_update_ints ((Walks.list h3 _ l notIt items).toS) s.heap.objs.size apart ns size few vals (items.size - 0) 0 _ (by omega) (Nat.zero_le _) ⟨⟨_, Heap.get?_push_size _ rfl, rfl, rfl⟩, stays.push _⟩ ?first ?last
        case first => exact ⟨0, Nat.le_refl 0, setR_new_at (Heap.get?_push_of_some _ made)⟩
        case last =>
          intro t c' hm hc' hS'
          obtain ⟨h', g2, d', tk', os'⟩ := t
          have eg : g2 = s.gens := hm.gens
          have ed : d' = s.drawn := hm.drawn
          have eo : os' = s.os := hm.os
          subst eg
          subst ed
          subst eo
          show wpAny _ _ _ _ _ _
          refine wpAny_pure ?_
          show wpAny _ _ (ret Value.none) _ _ _
          rw [size] at hc'
          refine wpAny_pure ⟨rfl, h', tk', c', rfl, hS', hc', fun b o e => ?_⟩
          have b0 : b < s.heap.objs.size := Heap.lt_size e
          refine hm.heap b o ?_ (Heap.get?_push_of_some _ (Heap.get?_push_of_some _ e))
          simp only [List.mem_cons, List.mem_singleton, List.not_mem_nil, or_false, not_or]
          exact ⟨Nat.ne_of_lt b0, by rw [sz]; exact Nat.ne_of_lt (Nat.lt_succ_of_lt b0)⟩
      · cases r2 with
        | error e => exact hr2
        | ok fl2 =>
          cases fl2 with
          | ret r =>
            obtain ⟨rfl, h', tk, c', rfl, hS', hc', hk'⟩ := hr2
            repeat (any_goals (first | assumption | wp_step))
            exact h _ _ _ hS' hc' hk'
          | _ => exact hr2.elim
    | _ => exact hr.elim
end
/-- set(xs) of ints: its size is that of its members, each told once -/
def rSetI (K : PySem.W.Frag) (w : World) : List V → Hp → VK → Prop := fun xs H Q => ∃ (p : Addr) (ns : List Int), xs = [.ref p] ∧ (SqL K H p (ns.map V.int) ∨ SqT K H p (ns.map V.int)) ∧ ns.length ≤ 4094 ∧ ∀ (q : Addr) (l : List Int), H q = none → l.Nodup → (∀ k, k ∈ l ↔ k ∈ ns) → Q (.ref q) (upd H q (SetO w q (fun j => decide (j ∈ ns)) l.length))
theorem cr_setI {X : Cx} (hc : X.calm = true) : CallR X (.type "set") (rSetI X.K X.w) := by
  intro pins s σ H xs us Q I r h
  obtain ⟨p, ns, rfl, hq, hl, q⟩ := h
  rw [Vals.ref1 r]
  have few : ns.length + 1 < scanBound := by unfold scanBound; omega
  have fin : ∀ (h' : Heap) (tk c : Nat), SetR X.w h' s.heap.objs.size (fun j => decide (j ∈ ns)) c → c ≤ ns.length → (∀ b o, s.heap.get? b = some o → h'.get? b = some o) → EP X pins σ Q (.ref s.heap.objs.size) { s with heap := h', toks := tk } := fun h' tk c R hcn k => by
    obtain ⟨o, es, ep, t, h1, h2, h3, h4, h5, h6, h7, h8, h9, h10⟩ := R
    have R : SetR X.w h' s.heap.objs.size (fun j => decide (j ∈ ns)) c := ⟨o, es, ep, t, h1, h2, h3, h4, h5, h6, h7, h8, h9, h10⟩
    have hlen : (es.toList.map keyOf).length = c := by rw [List.length_map, Array.length_toList]; exact h9
    refine ⟨.ref _, upd H s.heap.objs.size (SetO X.w s.heap.objs.size (fun j => decide (j ∈ ns)) c), I.laid (t' := tk) k (Nat.le_refl _) (setO_new R), rfl, ?_⟩
    have := q s.heap.objs.size (es.toList.map keyOf) (I.hok.fresh (Nat.le_refl _)) h5 (fun k => by rw [← h6 k]; exact decide_eq_true_iff)
    rw [hlen] at this
    exact this
  rcases hq with hq | hq
  · obtain ⟨its, rv, pl, hz⟩ := I.list hq
    exact set_of_list ns (I.ok.hd hc) pl.isList (by rw [List.toList_toArray]; exact ints_of_vals rv) few fin
  · obtain ⟨its, rv, pt, hz⟩ := I.tuple hq
    exact call_set_tupI ns (I.ok.hd hc) (show s.heap.IsTuple p its.toArray from pt) (by rw [List.toList_toArray]; exact ints_of_vals rv) few fin
end Rk

/-! Rk3: xs + ys of any two lists that are read. -/
namespace Rk
open PySem PySem.Spec PyProof.Rows L2
open MeetsSeq in
theorem cat_meets {l b : Addr} {its its2 : Array Value} {n n2 : Nat} {d d2 : Option Addr} {z z2 : Array (Option Value)} (hz : its.size + its2.size ≤ sizeLine) :
    Meets (Builtin.«list.__add__» ⟨[.ref l, .ref b], []⟩) fun _ R s => s.heap.get? l = some { cls := .type "list", dict := d, data := .seq its n, slots := z } ∧ s.heap.get? b = some { cls := .type "list", dict := d2, data := .seq its2 n2, slots := z2 } ∧
      R (.ok (.ret (.ref s.heap.objs.size))) { s with heap := s.heap.push { cls := .type "list", data := .seq (its ++ its2) } } :=
  .of_wp fun prog w A R s h => by
    obtain ⟨hp, gs, dr, tk, os⟩ := s
    obtain ⟨hl, hb, h⟩ := h
    have sub1 := sub_list_list
    wp_walk using wpAny_loadPart' hl, wpAny_loadPart' hb
    exact ⟨_, rfl, h⟩
def rCatS (K : PySem.W.Frag) : R2 := fun x y H Q => ∃ l b xs zs, x = .ref l ∧ y = .ref b ∧ SqL K H l xs ∧ SqL K H b zs ∧ xs.length + zs.length ≤ sizeLine ∧ ∀ p, H p = none → Q (.ref p) (upd H p (.lst (xs ++ zs)))
theorem op_catS {X : Cx} : OpR X (binaryOp .Add) (rCatS X.K) := by
  intro pins s σ H x y v u Q I rx ry h
  obtain ⟨l, b, xs, zs, rfl, rfl, hL, hB, hz, q⟩ := h
  cases rx
  cases ry
  obtain ⟨its, r, ⟨⟨c, d, dt, sl⟩, n, e, hc, _, hd⟩, _⟩ := I.list hL
  obtain ⟨its2, r2, ⟨⟨c2, d2, dt2, sl2⟩, n2, e2, hc2, _, hd2⟩, _⟩ := I.list hB
  simp only at hc hd hc2 hd2
  subst hc hd hc2 hd2
  have l1 := r.length
  have l2 := r2.length
  have fits : its.toArray.size + its2.toArray.size ≤ sizeLine := by rw [List.size_toArray, List.size_toArray]; omega
  refine concat_meets ⟨_, e, rfl⟩ ⟨_, e2, rfl⟩ noFill_list_add seq_list_add F.slot_list_add F.entry_list_add (F.args_list_add_2 _ _) (cat_meets fits) ⟨e, e2, ?_⟩
  have ea : its.toArray ++ its2.toArray = (its ++ its2).toArray := by simp
  rw [ea]
  exact ⟨.ref _, _, I.lnew (t' := s.toks) (r.append r2) (by rw [List.length_append]; omega), rfl, q _ I.fresh⟩
end Rk

/-! Dl: data with ownership over the readings of HandS. -/
namespace Dl
open PySem PySem.Spec PyProof.Rows L2
open Evl (Ex)

section
variable {K : PySem.W.Frag} {H H' : Hp}
mutual
theorem dp_mono (e : Ex H H') : ∀ (d : PyData) (v : V), Dp K H v d → Dp K H' v d
  | .none, _, h => by cases h; exact .non
  | .bool b, _, h => by cases h; exact .bl b
  | .int i, _, h => by cases h; exact .int i
  | .str x, _, h => by cases h; exact .str x
  | .list ds, _, h => by
    cases h with
    | lst hs ha => exact .lst (Evl.ex_l e hs) (dpa_mono e ds _ ha)
  | .tuple ds, _, h => by
    cases h with
    | tup hs ha => exact .tup (Evl.ex_t e hs) (dpa_mono e ds _ ha)
  | .dict _, _, h => by cases h
theorem dpa_mono (e : Ex H H') : ∀ (ds : List PyData) (vs : List V), DpAll K H vs ds → DpAll K H' vs ds
  | [], _, h => by cases h; exact .nil
  | d :: ds, _, h => by
    cases h with
    | cons h1 h2 => exact .cons (dp_mono e d _ h1) (dpa_mono e ds _ h2)
end
theorem dpa_len : ∀ {vs : List V} {ds : List PyData}, DpAll K H vs ds → vs.length = ds.length
  | _, _, .nil => rfl
  | _, _, .cons _ t => by simp [dpa_len t]
theorem dpa_get : ∀ {vs : List V} {ds : List PyData} {i : Nat} {d : PyData}, DpAll K H vs ds → ds[i]? = some d → ∃ v, vs[i]? = some v ∧ Dp K H v d
  | _, _, _, _, .nil, e => by simp at e
  | _, _, 0, _, .cons r _, e => by simp at e; subst e; exact ⟨_, rfl, r⟩
  | _, _, i + 1, d, .cons _ t, e => by
    obtain ⟨u, h1, h2⟩ := dpa_get (i := i) (d := d) t (by simpa using e)
    exact ⟨u, by simpa using h1, h2⟩
theorem dpa_getv : ∀ {vs : List V} {ds : List PyData} {i : Nat} {v : V}, DpAll K H vs ds → vs[i]? = some v → ∃ d, ds[i]? = some d ∧ Dp K H v d
  | _, _, _, _, .nil, e => by simp at e
  | _, _, 0, _, .cons r _, e => by simp at e; subst e; exact ⟨_, rfl, r⟩
  | _, _, i + 1, v, .cons _ t, e => by
    obtain ⟨u, h1, h2⟩ := dpa_getv (i := i) (v := v) t (by simpa using e)
    exact ⟨u, by simpa using h1, h2⟩
theorem dpa_append : ∀ {xs ys : List V} {ds es : List PyData}, DpAll K H xs ds → DpAll K H ys es → DpAll K H (xs ++ ys) (ds ++ es)
  | _, _, _, _, .nil, s => s
  | _, _, _, _, .cons r t, s => .cons r (dpa_append t s)
theorem dpa_one {v : V} {d : PyData} (h : Dp K H v d) : DpAll K H [v] [d] := .cons h .nil
theorem dpa_take : ∀ {xs : List V} {ds : List PyData} (n : Nat), DpAll K H xs ds → DpAll K H (xs.take n) (ds.take n)
  | _, _, 0, _ => .nil
  | _, _, _ + 1, .nil => .nil
  | _, _, n + 1, .cons r t => .cons r (dpa_take n t)
theorem dpa_drop : ∀ {xs : List V} {ds : List PyData} (n : Nat), DpAll K H xs ds → DpAll K H (xs.drop n) (ds.drop n)
  | _, _, 0, r => r
  | _, _, _ + 1, .nil => .nil
  | _, _, n + 1, .cons _ t => dpa_drop n t
theorem dpa_set {v : V} {d : PyData} (r : Dp K H v d) : ∀ {xs : List V} {ds : List PyData} (i : Nat), DpAll K H xs ds → DpAll K H (xs.set i v) (ds.set i d)
  | _, _, _, .nil => .nil
  | _, _, 0, .cons _ t => .cons r t
  | _, _, i + 1, .cons q t => .cons q (dpa_set r i t)
theorem dpa_erase : ∀ {xs : List V} {ds : List PyData} (i : Nat), DpAll K H xs ds → DpAll K H (xs.eraseIdx i) (ds.eraseIdx i)
  | _, _, _, .nil => .nil
  | _, _, 0, .cons _ t => t
  | _, _, i + 1, .cons q t => .cons q (dpa_erase i t)
theorem dpa_rev {xs : List V} {ds : List PyData} (h : DpAll K H xs ds) : DpAll K H xs.reverse ds.reverse := by
  induction ds generalizing xs with
  | nil => cases h; exact .nil
  | cons d ds ih =>
    cases h with
    | cons r t =>
      rw [List.reverse_cons, List.reverse_cons]
      exact dpa_append (ih t) (dpa_one r)
theorem dpa_dropLast {xs : List V} {ds : List PyData} (h : DpAll K H xs ds) : DpAll K H xs.dropLast ds.dropLast := by
  rw [List.dropLast_eq_take, List.dropLast_eq_take, dpa_len h]
  exact dpa_take _ h
theorem dpa_ints : ∀ (ns : List Int), DpAll K H (ns.map V.int) (ns.map PyData.int)
  | [] => .nil
  | n :: r => .cons (.int n) (dpa_ints r)
theorem dpa_strs : ∀ (ns : List Str), DpAll K H (ns.map V.str) (ns.map PyData.str)
  | [] => .nil
  | n :: r => .cons (.str n) (dpa_strs r)
theorem dpa_ints_inv : ∀ {ns : List Int} {vs : List V}, DpAll K H vs (ns.map PyData.int) → vs = ns.map V.int
  | [], _, h => by cases h; rfl
  | n :: r, _, h => by
    cases h with
    | cons h1 h2 =>
      cases h1
      rw [dpa_ints_inv h2]
      rfl
theorem dpa_strs_inv : ∀ {ns : List Str} {vs : List V}, DpAll K H vs (ns.map PyData.str) → vs = ns.map V.str
  | [], _, h => by cases h; rfl
  | n :: r, _, h => by
    cases h with
    | cons h1 h2 =>
      cases h1
      rw [dpa_strs_inv h2]
      rfl
theorem dp_int_inv {v : V} {i : Int} (h : Dp K H v (.int i)) : v = .int i := by cases h; rfl
theorem dp_str_inv {v : V} {i : Str} (h : Dp K H v (.str i)) : v = .str i := by cases h; rfl
theorem dp_bl_inv {v : V} {i : Bool} (h : Dp K H v (.bool i)) : v = .bl i := by cases h; rfl
theorem dp_non_inv {v : V} (h : Dp K H v .none) : v = .non := by cases h; rfl
end

/-- flat data -/
def flatD : PyData → Bool
  | .none => true | .bool _ => true | .int _ => true | .str _ => true | _ => false
/-- the value of flat data -/
def valD : PyData → V
  | .none => .non | .bool b => .bl b | .int i => .int i | .str s => .str s | _ => .non
theorem flat_val {K : PySem.W.Frag} {H : Hp} {v : V} {d : PyData} (f : flatD d = true) (h : Dp K H v d) : v = valD d := by
  cases h <;> first | rfl | cases f
theorem dp_flat {K : PySem.W.Frag} {H : Hp} {d : PyData} (f : flatD d = true) : Dp K H (valD d) d := by
  cases d with
  | none => exact .non
  | bool b => exact .bl b
  | int i => exact .int i
  | str s => exact .str s
  | list _ => cases f
  | tuple _ => cases f
  | dict _ => cases f
theorem flat_flat {K : PySem.W.Frag} {H : Hp} {v : V} {d : PyData} (f : flatD d = true) (h : Dp K H v d) : flatV v = true := by
  cases h <;> first | rfl | cases f
theorem dp_any {K : PySem.W.Frag} {H H' : Hp} {v : V} {d : PyData} (f : flatD d = true) (h : Dp K H v d) : Dp K H' v d := by
  rw [flat_val f h]
  exact dp_flat f
theorem dpa_any {K : PySem.W.Frag} {H H' : Hp} : ∀ {vs : List V} {ds : List PyData}, ds.all flatD = true → DpAll K H vs ds → DpAll K H' vs ds
  | _, _, _, .nil => .nil
  | _, d :: ds, f, .cons r t => by
    rw [List.all_cons, Bool.and_eq_true] at f
    exact .cons (dp_any f.1 r) (dpa_any f.2 t)
theorem dpa_flat {K : PySem.W.Frag} {H : Hp} : ∀ {vs : List V} {ds : List PyData}, ds.all flatD = true → DpAll K H vs ds → vs.all flatV = true
  | _, _, _, .nil => rfl
  | _, d :: ds, f, .cons r t => by
    rw [List.all_cons, Bool.and_eq_true] at f
    rw [List.all_cons, flat_flat f.1 r, dpa_flat f.2 t]
    rfl

/-! ### owned things -/
structure Res where
  P : V → Hp → Hp → (Addr → Prop) → Prop
  loc : ∀ {v B H B' H' M}, P v B H M → Ex B B' → (∀ a, M a → H' a = H a) → P v B' H' M
  live : ∀ {v B H M}, P v B H M → ∀ a, M a → H a ≠ none
/-- a list of data, owned -/
def RL (K : PySem.W.Frag) (ds : List PyData) : Res where
  P v B H M := ∃ p xs, v = .ref p ∧ H p = some (.lst xs) ∧ DpAll K B xs ds ∧ ∀ a, M a ↔ a = p
  loc := by
    rintro v B H B' H' M ⟨p, xs, rfl, hp, hd, hM⟩ e k
    exact ⟨p, xs, rfl, by rw [k p ((hM p).mpr rfl)]; exact hp, dpa_mono e _ _ hd, hM⟩
  live := by
    rintro v B H M ⟨p, xs, rfl, hp, hd, hM⟩ a ha
    rw [(hM a).mp ha, hp]
    exact fun z => nomatch z
inductive Slot where
  | non | pu (d : PyData) | ow (R : Res) | al (i : Nat)

def SlotIn (K : PySem.W.Frag) (B H : Hp) (o : Option (Option V)) (M : Addr → Prop) : Slot → Prop
  | .non => ∀ a, ¬ M a
  | .pu d => ∃ v, o = some (some v) ∧ Dp K B v d ∧ ∀ a, ¬ M a
  | .ow R => ∃ v, o = some (some v) ∧ R.P v B H M ∧ ∀ a, M a → B a = none
  | .al _ => False
structure Sd (K : PySem.W.Frag) (B H : Hp) (σ : L2.St) (δ : List Slot) (F : Addr → Prop) : Prop where
  bh : Ex B H
  len : σ.length = δ.length
  fb : ∀ a, F a → B a = none
  fl : ∀ a, F a → H a ≠ none
  sl : ∃ ms : Nat → Addr → Prop, (∀ i s, δ[i]? = some s → SlotIn K B H σ[i]? (ms i) s) ∧ (∀ i j a, ms i a → ms j a → i = j) ∧ (∀ i a, ms i a → ¬ F a) ∧ ∀ i a, ms i a → i < δ.length
/-- things grow -/
structure Gr (B H B2 H2 : Hp) : Prop where
  b : Ex B B2
  h : Ex H H2
  bh : Ex B2 H2
  nw : ∀ a o, B2 a = some o → B a = some o ∨ H a = none
theorem Gr.refl {B H : Hp} (e : Ex B H) : Gr B H B H := ⟨Ex.refl _, Ex.refl _, e, fun _ _ h => .inl h⟩
theorem Gr.trans {B H B2 H2 B3 H3 : Hp} (x : Gr B H B2 H2) (y : Gr B2 H2 B3 H3) : Gr B H B3 H3 :=
  ⟨x.b.trans y.b, x.h.trans y.h, y.bh, fun a o h => (y.nw a o h).elim (x.nw a o) fun z => .inr (by
    cases q : H a with
    | none => rfl
    | some u => rw [x.h a u q] at z; cases z)⟩
theorem exnone {H H' : Hp} {a : Addr} (e : Ex H H') (h : H' a = none) : H a = none := by
  cases q : H a with
  | none => rfl
  | some u => rw [e a u q] at h; cases h
theorem some_of_ne {H : Hp} {a : Addr} (h : H a ≠ none) : ∃ o, H a = some o := by
  cases q : H a with
  | none => exact absurd q h
  | some u => exact ⟨u, rfl⟩
/-- a new object that stays as it is -/
theorem Gr.new {B H : Hp} {p : Addr} {o : HO} (e : Ex B H) (h : H p = none) : Gr B H (upd B p o) (upd H p o) := by
  have hb : B p = none := exnone e h
  refine ⟨Ex.new hb, Ex.new h, fun a u q => ?_, fun a u q => ?_⟩
  · by_cases ha : a = p
    · subst ha; rw [upd_same] at q ⊢; exact q
    · rw [upd_ne ha] at q ⊢; exact e a u q
  · by_cases ha : a = p
    · subst ha; exact .inr h
    · rw [upd_ne ha] at q; exact .inl q
/-- a new object, owned -/
theorem Gr.own {B H : Hp} {p : Addr} {o : HO} (e : Ex B H) (h : H p = none) : Gr B H B (upd H p o) :=
  ⟨Ex.refl _, Ex.new h, e.trans (Ex.new h), fun _ _ q => .inl q⟩
section
variable {K : PySem.W.Frag} {B H B2 H2 : Hp} {σ : L2.St} {δ : List Slot} {F M : Addr → Prop}
theorem grow_none (g : Gr B H B2 H2) {a : Addr} (hb : B a = none) (hh : H a ≠ none) : B2 a = none := by
  cases q : B2 a with
  | none => rfl
  | some o =>
    rcases g.nw a o q with z | z
    · rw [hb] at z; cases z
    · exact absurd z hh
theorem ex_eq {a : Addr} (e : Ex H H2) (hh : H a ≠ none) : H2 a = H a := by
  obtain ⟨o, ho⟩ := some_of_ne hh
  rw [ho]
  exact e a o ho
theorem Res.grow {R : Res} {v : V} (g : Gr B H B2 H2) (h : R.P v B H M) : R.P v B2 H2 M := R.loc h g.b fun a ha => ex_eq g.h (R.live h a ha)
theorem SlotIn.grow {o : Option (Option V)} {s : Slot} (g : Gr B H B2 H2) (h : SlotIn K B H o M s) : SlotIn K B2 H2 o M s := by
  cases s with
  | non => exact h
  | pu d => obtain ⟨v, e, hd, hM⟩ := h; exact ⟨v, e, dp_mono g.b _ _ hd, hM⟩
  | ow R => obtain ⟨v, e, hP, hb⟩ := h; exact ⟨v, e, R.grow g hP, fun a ha => grow_none g (hb a ha) (R.live hP a ha)⟩
  | al i => exact h
theorem Sd.grow (S : Sd K B H σ δ F) (g : Gr B H B2 H2) : Sd K B2 H2 σ δ F := by
  obtain ⟨ms, h1, h2, h3, h4⟩ := S.sl
  exact ⟨g.bh, S.len, fun a ha => grow_none g (S.fb a ha) (S.fl a ha), fun a ha => by rw [ex_eq g.h (S.fl a ha)]; exact S.fl a ha, ms, fun i s hs => (h1 i s hs).grow g, h2, h3, h4⟩
theorem Sd.less {F' : Addr → Prop} (S : Sd K B H σ δ F') (h : ∀ a, F a → F' a) : Sd K B H σ δ F := by
  obtain ⟨ms, h1, h2, h3, h4⟩ := S.sl
  exact ⟨S.bh, S.len, fun a ha => S.fb a (h a ha), fun a ha => S.fl a (h a ha), ms, h1, h2, fun i a q f => h3 i a q (h a f), h4⟩
theorem Sd.more (S : Sd K B H σ δ F) : Sd K B H σ δ fun a => F a ∨ False := S.less fun a h => h.elim id False.elim
theorem set_get_ne {α : Type} {l : List α} {i j : Nat} {x : α} (h : i ≠ j) : (l.set i x)[j]? = l[j]? := List.getElem?_set_ne h
def updM (ms : Nat → Addr → Prop) (i : Nat) (M : Addr → Prop) : Nat → Addr → Prop := fun j => if j = i then M else ms j
theorem updM_eq {ms : Nat → Addr → Prop} {i j : Nat} {M : Addr → Prop} (e : j = i) : updM ms i M j = M := if_pos e
theorem updM_ne {ms : Nat → Addr → Prop} {i j : Nat} {M : Addr → Prop} (e : ¬ j = i) : updM ms i M j = ms j := if_neg e
/-- a slot is put -/
theorem Sd.put {i : Nat} {x : Option V} {s : Slot} (S : Sd K B H σ δ F) (h : SlotIn K B H (some x) M s) (d : ∀ ms : Nat → Addr → Prop, (∀ i s, δ[i]? = some s → SlotIn K B H σ[i]? (ms i) s) → (∀ i a, ms i a → ¬ F a) → ∀ j a, M a → ms j a → j = i) (f : ∀ a, M a → ¬ F a) (hi : i < δ.length) :
    Sd K B H (σ.set i x) (δ.set i s) F := by
  obtain ⟨ms, h1, h2, h3, h4⟩ := S.sl
  refine ⟨S.bh, by simp [S.len], S.fb, S.fl, updM ms i M, fun j t ht => ?_, fun j k a hj hk => ?_, fun j a hj => ?_, fun j a hj => ?_⟩
  · by_cases e : j = i
    · subst e
      rw [List.getElem?_set_self hi] at ht
      cases ht
      rw [List.getElem?_set_self (by rw [S.len]; exact hi), updM_eq rfl]
      exact h
    · rw [List.getElem?_set_ne (Ne.symm e)] at ht ⊢
      rw [updM_ne e]
      exact h1 j t ht
  · by_cases e : j = i <;> by_cases e2 : k = i
    · rw [e, e2]
    · rw [updM_eq e] at hj
      rw [updM_ne e2] at hk
      exact absurd (d ms h1 h3 k a hj hk) e2
    · rw [updM_ne e] at hj
      rw [updM_eq e2] at hk
      exact absurd (d ms h1 h3 j a hk hj) e
    · rw [updM_ne e] at hj
      rw [updM_ne e2] at hk
      exact h2 j k a hj hk
  · by_cases e : j = i
    · rw [updM_eq e] at hj; exact f a hj
    · rw [updM_ne e] at hj; exact h3 j a hj
  · rw [List.length_set]
    by_cases e : j = i
    · rw [e]; exact hi
    · rw [updM_ne e] at hj; exact h4 j a hj
theorem Sd.put_pu {i : Nat} {v : V} {d : PyData} (S : Sd K B H σ δ F) (h : Dp K B v d) (hi : i < δ.length) : Sd K B H (σ.set i (some v)) (δ.set i (.pu d)) F :=
  S.put (M := fun _ => False) ⟨v, rfl, h, fun _ z => z⟩ (fun _ _ _ _ _ z => z.elim) (fun _ z => z.elim) hi
theorem Sd.put_non {i : Nat} {x : Option V} (S : Sd K B H σ δ F) (hi : i < δ.length) : Sd K B H (σ.set i x) (δ.set i .non) F :=
  S.put (M := fun _ => False) (fun _ z => z) (fun _ _ _ _ _ z => z.elim) (fun _ z => z.elim) hi
/-- a temporary's own is put into a slot -/
theorem Sd.put_ow {i : Nat} {v : V} {R : Res} (S : Sd K B H σ δ fun a => F a ∨ M a) (h : R.P v B H M) (f : ∀ a, M a → ¬ F a) (hi : i < δ.length) : Sd K B H (σ.set i (some v)) (δ.set i (.ow R)) F := by
  have S' : Sd K B H σ δ F := S.less fun a h => .inl h
  obtain ⟨ms, h1, h2, h3, h4⟩ := S.sl
  refine ⟨S'.bh, by simp [S'.len], S'.fb, S'.fl, updM ms i M, fun j t ht => ?_, fun j k a hj hk => ?_, fun j a hj => ?_, fun j a hj => ?_⟩
  · by_cases e : j = i
    · subst e
      rw [List.getElem?_set_self hi] at ht
      cases ht
      rw [List.getElem?_set_self (by rw [S'.len]; exact hi), updM_eq rfl]
      exact ⟨v, rfl, h, fun a ha => S.fb a (.inr ha)⟩
    · rw [List.getElem?_set_ne (Ne.symm e)] at ht ⊢
      rw [updM_ne e]
      exact h1 j t ht
  · by_cases e : j = i <;> by_cases e2 : k = i
    · rw [e, e2]
    · rw [updM_eq e] at hj
      rw [updM_ne e2] at hk
      exact absurd (.inr hj) (h3 k a hk)
    · rw [updM_ne e] at hj
      rw [updM_eq e2] at hk
      exact absurd (.inr hk) (h3 j a hj)
    · rw [updM_ne e] at hj
      rw [updM_ne e2] at hk
      exact h2 j k a hj hk
  · by_cases e : j = i
    · rw [updM_eq e] at hj; exact f a hj
    · rw [updM_ne e] at hj; exact fun z => h3 j a hj (.inl z)
  · rw [List.length_set]
    by_cases e : j = i
    · rw [e]; exact hi
    · rw [updM_ne e] at hj; exact h4 j a hj
/-- an owned slot is opened: what stands there, and how it may be changed -/
theorem Sd.opn {i : Nat} {R : Res} (S : Sd K B H σ δ F) (hi : δ[i]? = some (.ow R)) : ∃ v M, σ[i]? = some (some v) ∧ R.P v B H M ∧ (∀ a, M a → B a = none) ∧ (∀ a, M a → ¬ F a) ∧
    ∀ B2 H2 x s' M', Ex B B2 → Ex B2 H2 → (∀ a o, H a = some o → ¬ M a → H2 a = some o) → (∀ a o, B2 a = some o → B a = some o ∨ H a = none ∨ M a) → SlotIn K B2 H2 (some x) M' s' → (∀ a, M' a → M a ∨ H a = none) →
      Sd K B2 H2 (σ.set i x) (δ.set i s') F := by
  obtain ⟨ms, h1, h2, h3, h4⟩ := S.sl
  obtain ⟨v, ev, hP, hb⟩ := h1 i _ hi
  refine ⟨v, ms i, ev, hP, hb, h3 i, fun B2 H2 x s' M' e1 e2 k nw hs hM => ?_⟩
  have il : i < δ.length := (List.getElem?_eq_some_iff.mp hi).1
  have fb2 : ∀ a, B a = none → H a ≠ none → ¬ ms i a → B2 a = none := fun a b1 b2 b3 => by
    cases q : B2 a with
    | none => rfl
    | some o =>
      rcases nw a o q with z | z | z
      · rw [b1] at z; cases z
      · exact absurd z b2
      · exact absurd z b3
  have keep : ∀ a, H a ≠ none → ¬ ms i a → H2 a = H a := fun a ha hn => by
    obtain ⟨o, ho⟩ := some_of_ne ha
    rw [ho]
    exact k a o ho hn
  have nF : ∀ a, F a → ¬ ms i a := fun a f m => h3 i a m f
  refine ⟨e2, by simp [S.len], fun a ha => fb2 a (S.fb a ha) (S.fl a ha) (nF a ha), fun a ha => by rw [keep a (S.fl a ha) (nF a ha)]; exact S.fl a ha, updM ms i M', fun j t ht => ?_, fun j l a hj hl => ?_, fun j a hj => ?_, fun j a hj => ?_⟩
  · by_cases e : j = i
    · subst e
      rw [List.getElem?_set_self il] at ht
      cases ht
      rw [List.getElem?_set_self (by rw [S.len]; exact il), updM_eq rfl]
      exact hs
    · rw [List.getElem?_set_ne (Ne.symm e)] at ht ⊢
      rw [updM_ne e]
      have q := h1 j t ht
      cases t with
      | non => exact q
      | pu d => obtain ⟨u, e3, hd, hM⟩ := q; exact ⟨u, e3, dp_mono e1 _ _ hd, hM⟩
      | ow R' =>
        obtain ⟨u, e3, hP', hb'⟩ := q
        have nd : ∀ a, ms j a → ¬ ms i a := fun a p p' => e (h2 j i a p p')
        exact ⟨u, e3, R'.loc hP' e1 fun a ha => keep a (R'.live hP' a ha) (nd a ha), fun a ha => fb2 a (hb' a ha) (R'.live hP' a ha) (nd a ha)⟩
      | al _ => exact q
  · have lv : ∀ j a, ms j a → H a ≠ none := fun j a hj => by
      have hl := h4 j a hj
      obtain ⟨t, ht⟩ : ∃ t, δ[j]? = some t := ⟨δ[j], List.getElem?_eq_getElem hl⟩
      have q := h1 j t ht
      cases t with
      | non => exact absurd hj (q a)
      | pu d => obtain ⟨_, _, _, hM⟩ := q; exact absurd hj (hM a)
      | ow R' => obtain ⟨u, e3, hP', hb'⟩ := q; exact R'.live hP' a hj
      | al _ => exact q.elim
    by_cases e : j = i <;> by_cases e3 : l = i
    · rw [e, e3]
    · rw [updM_eq e] at hj
      rw [updM_ne e3] at hl
      rcases hM a hj with z | z
      · exact absurd (h2 l i a hl z) e3
      · exact absurd z (lv l a hl)
    · rw [updM_ne e] at hj
      rw [updM_eq e3] at hl
      rcases hM a hl with z | z
      · exact absurd (h2 j i a hj z) e
      · exact absurd z (lv j a hj)
    · rw [updM_ne e] at hj
      rw [updM_ne e3] at hl
      exact h2 j l a hj hl
  · by_cases e : j = i
    · rw [updM_eq e] at hj
      intro f
      rcases hM a hj with z | z
      · exact h3 i a z f
      · exact S.fl a f z
    · rw [updM_ne e] at hj; exact h3 j a hj
  · rw [List.length_set]
    by_cases e : j = i
    · rw [e]; exact il
    · rw [updM_ne e] at hj; exact h4 j a hj
theorem set_self {i : Nat} {x : Option V} (h : σ[i]? = some x) : σ.set i x = σ := by
  apply List.ext_getElem?
  intro j
  by_cases e : j = i
  · subst e
    rw [h, List.getElem?_set_self (List.getElem?_eq_some_iff.mp h).1]
  · rw [List.getElem?_set_ne (Ne.symm e)]
theorem Sd.pu {i : Nat} {d : PyData} (S : Sd K B H σ δ F) (hi : δ[i]? = some (.pu d)) : ∃ v, σ[i]? = some (some v) ∧ Dp K B v d := by
  obtain ⟨ms, h1, _⟩ := S.sl
  obtain ⟨v, e, hd, _⟩ := h1 i _ hi
  exact ⟨v, e, hd⟩
end

/-! ### values -/
def VOk (K : PySem.W.Frag) (σ : L2.St) (δ : List Slot) (B H : Hp) (v : V) (M : Addr → Prop) : Slot → Prop
  | .non => False
  | .pu d => Dp K B v d ∧ ∀ a, ¬ M a
  | .ow R => R.P v B H M
  | .al i => σ[i]? = some (some v) ∧ ∀ a, ¬ M a
/-- a reference that owns nothing -/
def RRef (a : Addr) : Res where
  P v _ _ M := v = .ref a ∧ ∀ b, ¬ M b
  loc := fun ⟨e, h⟩ _ _ => ⟨e, h⟩
  live := fun ⟨_, h⟩ b hb => absurd hb (h b)
/-- what is owned shows a list of data at an address -/
def Shows (K : PySem.W.Frag) (R : Res) (a : Addr) (ds : List PyData) : Prop := ∀ v B H M, R.P v B H M → ∃ xs, H a = some (.lst xs) ∧ DpAll K B xs ds
/-- what a slot's value denotes as data now -/
def den (K : PySem.W.Frag) (δ : List Slot) (s : Slot) (d : PyData) : Prop :=
  s = .pu d ∨ (∃ ds, d = .list ds ∧ (s = .ow (RL K ds) ∨ ∃ i, s = .al i ∧ δ[i]? = some (.ow (RL K ds)))) ∨ ∃ (ds : List PyData) (a : Addr) (i : Nat) (R : Res), d = .list ds ∧ s = Slot.ow (RRef a) ∧ δ[i]? = some (Slot.ow R) ∧ Shows K R a ds
/-- top level read now, contents fixed -/
def Dr (K : PySem.W.Frag) (B H : Hp) (v : V) (d : PyData) : Prop := Dp K B v d ∨ ∃ p xs ds, v = .ref p ∧ d = .list ds ∧ H p = some (.lst xs) ∧ DpAll K B xs ds
theorem Dr.dp {K : PySem.W.Frag} {B H : Hp} {v : V} {d : PyData} (e : Ex B H) (h : Dr K B H v d) : Dp K H v d := by
  rcases h with h | ⟨p, xs, ds, rfl, rfl, hp, ha⟩
  · exact dp_mono e _ _ h
  · exact .lst (SqL.of hp) (dpa_mono e _ _ ha)
theorem Dr.lst {K : PySem.W.Frag} {B H : Hp} {v : V} {ds : List PyData} (e : Ex B H) (h : Dr K B H v (.list ds)) : ∃ p xs, v = .ref p ∧ SqL K H p xs ∧ DpAll K B xs ds := by
  rcases h with h | ⟨p, xs, ds, rfl, e2, hp, ha⟩
  · cases h with
    | lst hs ha => exact ⟨_, _, rfl, Evl.ex_l e hs, ha⟩
  · cases e2
    exact ⟨p, xs, rfl, SqL.of hp, ha⟩
theorem Dr.tup {K : PySem.W.Frag} {B H : Hp} {v : V} {ds : List PyData} (e : Ex B H) (h : Dr K B H v (.tuple ds)) : ∃ p xs, v = .ref p ∧ SqT K H p xs ∧ DpAll K B xs ds := by
  rcases h with h | ⟨p, xs, ds, rfl, e2, hp, ha⟩
  · cases h with
    | tup hs ha => exact ⟨_, _, rfl, Evl.ex_t e hs, ha⟩
  · cases e2
theorem Dr.grow {K : PySem.W.Frag} {B H B2 H2 : Hp} {v : V} {d : PyData} (g : Gr B H B2 H2) (h : Dr K B H v d) : Dr K B2 H2 v d := by
  rcases h with h | ⟨p, xs, ds, rfl, rfl, hp, ha⟩
  · exact .inl (dp_mono g.b _ _ h)
  · exact .inr ⟨p, xs, ds, rfl, rfl, g.h _ _ hp, dpa_mono g.b _ _ ha⟩
section
variable {K : PySem.W.Frag} {B H B2 H2 : Hp} {σ : L2.St} {δ : List Slot} {F M : Addr → Prop}
theorem den_dr {v : V} {s : Slot} {d : PyData} {F' : Addr → Prop} (S : Sd K B H σ δ F') (h : VOk K σ δ B H v M s) (hd : den K δ s d) : Dr K B H v d := by
  rcases hd with rfl | ⟨ds, rfl, rfl | ⟨i, rfl, hi⟩⟩ | ⟨ds, a, i, R, rfl, rfl, hi, hs⟩
  · exact .inl h.1
  · obtain ⟨p, xs, rfl, hp, ha, _⟩ := h
    exact .inr ⟨p, xs, ds, rfl, rfl, hp, ha⟩
  · obtain ⟨e, _⟩ := h
    obtain ⟨v', M', e', hP, _⟩ := S.opn hi
    rw [e] at e'
    cases e'
    obtain ⟨p, xs, rfl, hp, ha, _⟩ := hP
    exact .inr ⟨p, xs, ds, rfl, rfl, hp, ha⟩
  · obtain ⟨rfl, _⟩ := h
    obtain ⟨v', M', ev, hP, _⟩ := S.opn hi
    obtain ⟨xs, hp, ha⟩ := hs _ _ _ _ hP
    exact .inr ⟨a, xs, ds, rfl, rfl, hp, ha⟩
/-- a temporary's own becomes data that stays -/
theorem freeze {v : V} {ds : List PyData} (S : Sd K B H σ δ fun a => F a ∨ M a) (h : (RL K ds).P v B H M) (f : ∀ a, M a → ¬ F a) : ∃ B2, Ex B B2 ∧ Sd K B2 H σ δ F ∧ Dp K B2 v (.list ds) := by
  obtain ⟨p, xs, rfl, hp, ha, hM⟩ := h
  have hb : B p = none := S.fb p (.inr ((hM p).mpr rfl))
  have e1 : Ex B (upd B p (.lst xs)) := Ex.new hb
  obtain ⟨ms, h1, h2, h3, h4⟩ := S.sl
  have e2 : Ex (upd B p (.lst xs)) H := fun a u q => by
    by_cases e : a = p
    · subst e; rw [upd_same] at q; cases q; exact hp
    · rw [upd_ne e] at q; exact S.bh a u q
  refine ⟨_, e1, ⟨e2, S.len, fun a ha => ?_, fun a ha => S.fl a (.inl ha), ms, fun i s hs => ?_, h2, fun i a q z => h3 i a q (.inl z), h4⟩, .lst (SqL.of upd_same) (dpa_mono e1 _ _ ha)⟩
  · rw [upd_ne (fun z => f a ((hM a).mpr z) ha)]
    exact S.fb a (.inl ha)
  · have q := h1 i s hs
    cases s with
    | non => exact q
    | pu d => obtain ⟨u, e3, hd, hM⟩ := q; exact ⟨u, e3, dp_mono e1 _ _ hd, hM⟩
    | ow R' =>
      obtain ⟨u, e3, hP', hb'⟩ := q
      refine ⟨u, e3, R'.loc hP' e1 fun _ _ => rfl, fun a ha => ?_⟩
      rw [upd_ne (fun z => h3 i a ha (.inr ((hM a).mpr z)))]
      exact hb' a ha
    | al _ => exact q
end

/-! ### expressions -/
def EvS (K : PySem.W.Frag) (te : TE) (δ : List Slot) (Φ : Slot → List Slot → Prop) : Prop :=
  ∀ (B H : Hp) (σ : L2.St) (F : Addr → Prop) (Q : VK), Sd K B H σ δ F →
    (∀ v M s B2 H2 δ2, Ex B B2 → (∀ a, F a → H2 a = H a) → Sd K B2 H2 σ δ2 (fun a => F a ∨ M a) → VOk K σ δ2 B2 H2 v M s → (∀ a, M a → ¬ F a) → Φ s δ2 → Q v H2) → te σ H Q
/-- .. to data that stays -/
def EvD (K : PySem.W.Frag) (te : TE) (δ : List Slot) (Φ : PyData → List Slot → Prop) : Prop :=
  ∀ (B H : Hp) (σ : L2.St) (F : Addr → Prop) (Q : VK), Sd K B H σ δ F →
    (∀ v d B2 H2 δ2, Ex B B2 → (∀ a, F a → H2 a = H a) → Sd K B2 H2 σ δ2 F → Dp K B2 v d → Φ d δ2 → Q v H2) → te σ H Q
def frz (K : PySem.W.Frag) (s : Slot) (d : PyData) : Prop := s = .pu d ∨ ∃ ds, d = .list ds ∧ s = .ow (RL K ds)
theorem frz_pu {K : PySem.W.Frag} {d : PyData} : frz K (.pu d) d := .inl rfl
theorem frz_ow {K : PySem.W.Frag} {ds : List PyData} : frz K (.ow (RL K ds)) (.list ds) := .inr ⟨ds, rfl, rfl⟩
theorem den_pu {K : PySem.W.Frag} {δ : List Slot} {d : PyData} : den K δ (.pu d) d := .inl rfl
theorem den_ow {K : PySem.W.Frag} {δ : List Slot} {ds : List PyData} : den K δ (.ow (RL K ds)) (.list ds) := .inr (.inl ⟨ds, rfl, .inl rfl⟩)
theorem den_al {K : PySem.W.Frag} {δ : List Slot} {i : Nat} {ds : List PyData} (h : δ[i]? = some (.ow (RL K ds))) : den K δ (.al i) (.list ds) := .inr (.inl ⟨ds, rfl, .inr ⟨i, rfl, h⟩⟩)
theorem den_ref {K : PySem.W.Frag} {δ : List Slot} {i : Nat} {a : Addr} {R : Res} {ds : List PyData} (h : δ[i]? = some (.ow R)) (hs : Shows K R a ds) : den K δ (.ow (RRef a)) (.list ds) := .inr (.inr ⟨ds, a, i, R, rfl, rfl, h, hs⟩)
def EvT (K : PySem.W.Frag) (tt : TT) (δ : List Slot) (Φ : Bool → List Slot → Prop) : Prop :=
  ∀ (B H : Hp) (σ : L2.St) (F : Addr → Prop) (Q : Bool → Hp → Prop), Sd K B H σ δ F →
    (∀ b B2 H2 δ2, Ex B B2 → (∀ a, F a → H2 a = H a) → Sd K B2 H2 σ δ2 F → Φ b δ2 → Q b H2) → tt σ H Q
/-- arguments -/
inductive AOk (K : PySem.W.Frag) (σ : L2.St) (δ : List Slot) (B H : Hp) : List V → List Slot → (Addr → Prop) → Prop
  | nil : AOk K σ δ B H [] [] (fun _ => False)
  | cons {v : V} {s : Slot} {M1 : Addr → Prop} {vs : List V} {ss : List Slot} {M2 : Addr → Prop} : VOk K σ δ B H v M1 s → (∀ a, M1 a → ¬ M2 a) → AOk K σ δ B H vs ss M2 → AOk K σ δ B H (v :: vs) (s :: ss) (fun a => M1 a ∨ M2 a)
def EvA (K : PySem.W.Frag) (ta : TA) (δ : List Slot) (Φ : List Slot → List Slot → Prop) : Prop :=
  ∀ (B H : Hp) (σ : L2.St) (F : Addr → Prop) (Q : List V → Hp → Prop), Sd K B H σ δ F →
    (∀ vs M ss B2 H2 δ2, Ex B B2 → (∀ a, F a → H2 a = H a) → Sd K B2 H2 σ δ2 (fun a => F a ∨ M a) → AOk K σ δ2 B2 H2 vs ss M → (∀ a, M a → ¬ F a) → Φ ss δ2 → Q vs H2) → ta σ H Q
section
variable {K : PySem.W.Frag} {δ : List Slot} {te ta tb : TE} {tt tu : TT}
theorem EvS.imp {Φ Ψ : Slot → List Slot → Prop} (h : EvS K te δ Φ) (i : ∀ s δ2, Φ s δ2 → Ψ s δ2) : EvS K te δ Ψ := fun B H σ F Q S k => h B H σ F Q S fun v M s B2 H2 δ2 e f S2 w n p => k v M s B2 H2 δ2 e f S2 w n (i s δ2 p)
theorem EvT.imp {Φ Ψ : Bool → List Slot → Prop} (h : EvT K tt δ Φ) (i : ∀ s δ2, Φ s δ2 → Ψ s δ2) : EvT K tt δ Ψ := fun B H σ F Q S k => h B H σ F Q S fun b B2 H2 δ2 e f S2 p => k b B2 H2 δ2 e f S2 (i b δ2 p)
theorem ev_pu {i : Nat} {d : PyData} {Φ : Slot → List Slot → Prop} (hi : δ[i]? = some (.pu d)) (h : Φ (.pu d) δ) : EvS K (tVar i) δ Φ := fun B H σ F Q S k => by
  obtain ⟨v, e, hd⟩ := S.pu hi
  exact ⟨v, e, k v (fun _ => False) (.pu d) B H δ (Ex.refl _) (fun _ _ => rfl) (S.less fun a z => z.elim id False.elim) ⟨hd, fun _ z => z⟩ (fun _ z => z.elim) h⟩
theorem ev_al {i : Nat} {R : Res} {Φ : Slot → List Slot → Prop} (hi : δ[i]? = some (.ow R)) (h : Φ (.al i) δ) : EvS K (tVar i) δ Φ := fun B H σ F Q S k => by
  obtain ⟨v, M, e, hP, _⟩ := S.opn hi
  exact ⟨v, e, k v (fun _ => False) (.al i) B H δ (Ex.refl _) (fun _ _ => rfl) (S.less fun a z => z.elim id False.elim) ⟨e, fun _ z => z⟩ (fun _ z => z.elim) h⟩
theorem ev_c {v : V} {d : PyData} {Φ : Slot → List Slot → Prop} (hd : ∀ B : Hp, Dp K B v d) (h : Φ (.pu d) δ) : EvS K (tC v) δ Φ := fun B H σ F Q S k =>
  k v (fun _ => False) (.pu d) B H δ (Ex.refl _) (fun _ _ => rfl) (S.less fun a z => z.elim id False.elim) ⟨hd B, fun _ z => z⟩ (fun _ z => z.elim) h
theorem ev_int {i : Int} {Φ : Slot → List Slot → Prop} (h : Φ (.pu (.int i)) δ) : EvS K (tC (.int i)) δ Φ := ev_c (fun _ => .int i) h
theorem ev_bl {i : Bool} {Φ : Slot → List Slot → Prop} (h : Φ (.pu (.bool i)) δ) : EvS K (tC (.bl i)) δ Φ := ev_c (fun _ => .bl i) h
theorem ev_str {i : Str} {Φ : Slot → List Slot → Prop} (h : Φ (.pu (.str i)) δ) : EvS K (tC (.str i)) δ Φ := ev_c (fun _ => .str i) h
theorem ev_non {Φ : Slot → List Slot → Prop} (h : Φ (.pu .none) δ) : EvS K (tC .non) δ Φ := ev_c (fun _ => .non) h
/-- to data that stays -/
theorem ed_of {Φ : PyData → List Slot → Prop} (h : EvS K te δ fun s δ2 => ∃ d, frz K s d ∧ Φ d δ2) : EvD K te δ Φ := fun B H σ F Q S k =>
  h B H σ F Q S fun v M s B2 H2 δ2 e f S2 w n p => by
    obtain ⟨d, hf, q⟩ := p
    rcases hf with rfl | ⟨ds, rfl, rfl⟩
    · exact k v d B2 H2 δ2 e f (S2.less fun a z => .inl z) w.1 q
    · obtain ⟨B3, e3, S3, hd⟩ := freeze S2 w n
      exact k v _ B3 H2 δ2 (e.trans e3) f S3 hd q
/-- what holds of a temporary holds behind a further step -/
theorem VOk.step {σ : L2.St} {δ δ2 : List Slot} {B H B2 H2 : Hp} {v : V} {M : Addr → Prop} {s : Slot} (h : VOk K σ δ B H v M s) (e : Ex B B2) (f : ∀ a, M a → H2 a = H a) : VOk K σ δ2 B2 H2 v M s := by
  cases s with
  | non => exact h
  | pu d => exact ⟨dp_mono e _ _ h.1, h.2⟩
  | ow R => exact R.loc h e f
  | al i => exact h
end
end Dl

namespace Dl
open PySem PySem.Spec PyProof.Rows L2
open Evl (Ex)
section
variable {K : PySem.W.Frag} {δ : List Slot} {te ta tb tc : TE} {tt tu : TT} {r : R2}

/-! ### contracts of operations on values -/
/-- the result is data that stays -/
def OpP (K : PySem.W.Frag) (r : R2) (x y z : PyData) : Prop := ∀ (B H : Hp) (u v : V) (Q : VK), Ex B H → Dr K B H u x → Dr K B H v y → (∀ w B2 H2, Gr B H B2 H2 → Dp K B2 w z → Q w H2) → r u v H Q
/-- the result is a new list -/
def OpL (K : PySem.W.Frag) (r : R2) (x y : PyData) (zs : List PyData) : Prop := ∀ (B H : Hp) (u v : V) (Q : VK), Ex B H → Dr K B H u x → Dr K B H v y → (∀ p xs, H p = none → DpAll K B xs zs → Q (.ref p) (upd H p (.lst xs))) → r u v H Q
abbrev R1 := V → Hp → VK → Prop
def UnP (K : PySem.W.Frag) (r : R1) (x z : PyData) : Prop := ∀ (B H : Hp) (u : V) (Q : VK), Ex B H → Dr K B H u x → (∀ w B2 H2, Gr B H B2 H2 → Dp K B2 w z → Q w H2) → r u H Q
def UnL (K : PySem.W.Frag) (r : R1) (x : PyData) (zs : List PyData) : Prop := ∀ (B H : Hp) (u : V) (Q : VK), Ex B H → Dr K B H u x → (∀ p xs, H p = none → DpAll K B xs zs → Q (.ref p) (upd H p (.lst xs))) → r u H Q

theorem sd_own {B H : Hp} {σ : L2.St} {F : Addr → Prop} {p : Addr} {o : HO} (S : Sd K B H σ δ F) (hp : H p = none) : Sd K B (upd H p o) σ δ fun a => F a ∨ a = p := by
  have g : Gr B H B (upd H p o) := Gr.own S.bh hp
  have S2 := S.grow g
  obtain ⟨ms, h1, h2, h3, h4⟩ := S.sl
  obtain ⟨ms2, k1, k2, k3, k4⟩ := S2.sl
  refine ⟨S2.bh, S2.len, fun a ha => ?_, fun a ha => ?_, ms, fun i s hs => (h1 i s hs).grow g, h2, fun i a q z => ?_, h4⟩
  · rcases ha with z | rfl
    · exact S.fb a z
    · exact exnone S.bh hp
  · rcases ha with z | rfl
    · exact S2.fl a z
    · rw [upd_same]; exact fun z => nomatch z
  · rcases z with z | rfl
    · exact h3 i a q z
    · have hl := h4 i a q
      have q2 := h1 i δ[i] (List.getElem?_eq_getElem hl)
      cases e : δ[i] with
      | non => rw [e] at q2; exact q2 a q
      | pu d => rw [e] at q2; obtain ⟨_, _, _, z⟩ := q2; exact z a q
      | ow R => rw [e] at q2; obtain ⟨_, _, hP, _⟩ := q2; exact R.live hP a q hp
      | al j => rw [e] at q2; exact q2
theorem rl_new {B H : Hp} {p : Addr} {xs : List V} {zs : List PyData} (ha : DpAll K B xs zs) : (RL K zs).P (.ref p) B (upd H p (.lst xs)) (fun a => a = p) := ⟨p, xs, rfl, upd_same, ha, fun _ => Iff.rfl⟩

theorem ev_opP {Φ : Slot → List Slot → Prop} (h : EvS K ta δ fun s1 δ1 => EvS K tb δ1 fun s2 δ2 => ∃ x y z, den K δ2 s1 x ∧ den K δ2 s2 y ∧ OpP K r x y z ∧ Φ (.pu z) δ2) : EvS K (tOp r ta tb) δ Φ := fun B H σ F Q S k =>
  h B H σ F _ S fun v1 M1 s1 B1 H1 δ1 e1 f1 S1 w1 n1 p1 => p1 B1 H1 σ _ _ S1 fun v2 M2 s2 B2 H2 δ2 e2 f2 S2 w2 n2 p2 => by
    obtain ⟨x, y, z, d1, d2, hO, q⟩ := p2
    have w1' : VOk K σ δ2 B2 H2 v1 M1 s1 := w1.step e2 fun a ha => f2 a (.inr ha)
    refine hO B2 H2 v1 v2 Q S2.bh (den_dr S2 w1' d1) (den_dr S2 w2 d2) fun w B3 H3 g hz => ?_
    exact k w (fun _ => False) (.pu z) B3 H3 δ2 ((e1.trans e2).trans g.b) (fun a ha => by
      rw [ex_eq g.h (S2.fl a (.inl (.inl ha))), f2 a (.inl ha), f1 a ha]) ((S2.grow g).less fun a ha => ha.elim (fun z => .inl (.inl z)) False.elim) ⟨hz, fun _ z => z⟩ (fun _ z => z.elim) q
theorem ev_opL {Φ : Slot → List Slot → Prop} (h : EvS K ta δ fun s1 δ1 => EvS K tb δ1 fun s2 δ2 => ∃ x y zs, den K δ2 s1 x ∧ den K δ2 s2 y ∧ OpL K r x y zs ∧ Φ (.ow (RL K zs)) δ2) : EvS K (tOp r ta tb) δ Φ := fun B H σ F Q S k =>
  h B H σ F _ S fun v1 M1 s1 B1 H1 δ1 e1 f1 S1 w1 n1 p1 => p1 B1 H1 σ _ _ S1 fun v2 M2 s2 B2 H2 δ2 e2 f2 S2 w2 n2 p2 => by
    obtain ⟨x, y, zs, d1, d2, hO, q⟩ := p2
    have w1' : VOk K σ δ2 B2 H2 v1 M1 s1 := w1.step e2 fun a ha => f2 a (.inr ha)
    have SF : Sd K B2 H2 σ δ2 F := S2.less fun a ha => .inl (.inl ha)
    refine hO B2 H2 v1 v2 Q S2.bh (den_dr S2 w1' d1) (den_dr S2 w2 d2) fun p xs hp hz => ?_
    refine k (.ref p) (fun a => a = p) (.ow (RL K zs)) B2 _ δ2 (e1.trans e2) (fun a ha => ?_) (sd_own SF hp) (rl_new hz) (fun a ha f => ?_) q
    · rw [upd_ne (fun z => SF.fl a ha (by rw [z]; exact hp)), f2 a (.inl ha), f1 a ha]
    · rw [ha] at f; exact SF.fl p f hp
theorem ev_unP {r : R1} {Φ : Slot → List Slot → Prop} (h : EvS K ta δ fun s1 δ1 => ∃ x z, den K δ1 s1 x ∧ UnP K r x z ∧ Φ (.pu z) δ1) : EvS K (fun σ H Q => ta σ H fun x H1 => r x H1 Q) δ Φ := fun B H σ F Q S k =>
  h B H σ F _ S fun v2 M2 s2 B2 H2 δ2 e2 f2 S2 w2 n2 p2 => by
    obtain ⟨y, z, d2, hO, q⟩ := p2
    refine hO B2 H2 v2 Q S2.bh (den_dr S2 w2 d2) fun w B3 H3 g hz => ?_
    exact k w (fun _ => False) (.pu z) B3 H3 δ2 (e2.trans g.b) (fun a ha => by
      rw [ex_eq g.h (S2.fl a (.inl ha)), f2 a ha]) ((S2.grow g).less fun a ha => ha.elim (fun z => .inl z) False.elim) ⟨hz, fun _ z => z⟩ (fun _ z => z.elim) q
theorem ev_unL {r : R1} {Φ : Slot → List Slot → Prop} (h : EvS K ta δ fun s1 δ1 => ∃ x zs, den K δ1 s1 x ∧ UnL K r x zs ∧ Φ (.ow (RL K zs)) δ1) : EvS K (fun σ H Q => ta σ H fun x H1 => r x H1 Q) δ Φ := fun B H σ F Q S k =>
  h B H σ F _ S fun v2 M2 s2 B2 H2 δ2 e2 f2 S2 w2 n2 p2 => by
    obtain ⟨y, zs, d2, hO, q⟩ := p2
    have SF : Sd K B2 H2 σ δ2 F := S2.less fun a ha => .inl ha
    refine hO B2 H2 v2 Q S2.bh (den_dr S2 w2 d2) fun p xs hp hz => ?_
    refine k (.ref p) (fun a => a = p) (.ow (RL K zs)) B2 _ δ2 e2 (fun a ha => ?_) (sd_own SF hp) (rl_new hz) (fun a ha f => ?_) q
    · rw [upd_ne (fun z => SF.fl a ha (by rw [z]; exact hp)), f2 a ha]
    · rw [ha] at f; exact SF.fl p f hp
/-! a result that is flat -/
theorem opP_flat {x y z : PyData} (f : flatD z = true) (h : ∀ (B H : Hp) (u v : V) (Q : VK), Ex B H → Dr K B H u x → Dr K B H v y → Q (valD z) H → r u v H Q) : OpP K r x y z := fun B H u v Q e d1 d2 k => h B H u v Q e d1 d2 (k _ B H (Gr.refl e) (dp_flat f))
theorem unP_flat {r : R1} {x z : PyData} (f : flatD z = true) (h : ∀ (B H : Hp) (u : V) (Q : VK), Ex B H → Dr K B H u x → Q (valD z) H → r u H Q) : UnP K r x z := fun B H u Q e d1 k => h B H u Q e d1 (k _ B H (Gr.refl e) (dp_flat f))
theorem dr_int {B H : Hp} {v : V} {i : Int} (h : Dr K B H v (.int i)) : v = .int i := by
  rcases h with h | ⟨p, xs, ds, rfl, e, _⟩
  · exact dp_int_inv h
  · cases e
theorem dr_str {B H : Hp} {v : V} {i : Str} (h : Dr K B H v (.str i)) : v = .str i := by
  rcases h with h | ⟨p, xs, ds, rfl, e, _⟩
  · exact dp_str_inv h
  · cases e
theorem dr_bl {B H : Hp} {v : V} {i : Bool} (h : Dr K B H v (.bool i)) : v = .bl i := by
  rcases h with h | ⟨p, xs, ds, rfl, e, _⟩
  · exact dp_bl_inv h
  · cases e
theorem dr_flat {B H : Hp} {v : V} {d : PyData} (f : flatD d = true) (h : Dr K B H v d) : v = valD d := by
  rcases h with h | ⟨p, xs, ds, rfl, e, _⟩
  · exact flat_val f h
  · subst e; cases f

/-! ### ints -/
theorem ev_I0 {g : Int → Int → Int} {Φ : Slot → List Slot → Prop} (h : EvS K ta δ fun s1 δ1 => EvS K tb δ1 fun s2 δ2 => ∃ i j, s1 = .pu (.int i) ∧ s2 = .pu (.int j) ∧ Φ (.pu (.int (g i j))) δ2) : EvS K (tOp (rI0 fun i j => .int (g i j)) ta tb) δ Φ :=
  ev_opP (h.imp fun s1 δ1 h1 => h1.imp fun s2 δ2 ⟨i, j, e1, e2, q⟩ => ⟨.int i, .int j, .int (g i j), .inl e1, .inl e2, opP_flat rfl fun B H u v Q e d1 d2 k => ⟨i, j, dr_int d1, dr_int d2, k⟩, q⟩)
theorem ev_I {C : Int → Int → Prop} {g : Int → Int → Int} {Φ : Slot → List Slot → Prop} (h : EvS K ta δ fun s1 δ1 => EvS K tb δ1 fun s2 δ2 => ∃ i j, s1 = .pu (.int i) ∧ s2 = .pu (.int j) ∧ C i j ∧ Φ (.pu (.int (g i j))) δ2) : EvS K (tOp (rI C fun i j => .int (g i j)) ta tb) δ Φ :=
  ev_opP (h.imp fun s1 δ1 h1 => h1.imp fun s2 δ2 ⟨i, j, e1, e2, c, q⟩ => ⟨.int i, .int j, .int (g i j), .inl e1, .inl e2, opP_flat rfl fun B H u v Q e d1 d2 k => ⟨i, j, dr_int d1, dr_int d2, c, k⟩, q⟩)
theorem ev_B0 {g : Int → Int → Bool} {Φ : Slot → List Slot → Prop} (h : EvS K ta δ fun s1 δ1 => EvS K tb δ1 fun s2 δ2 => ∃ i j, s1 = .pu (.int i) ∧ s2 = .pu (.int j) ∧ Φ (.pu (.bool (g i j))) δ2) : EvS K (tOp (rI0 fun i j => .bl (g i j)) ta tb) δ Φ :=
  ev_opP (h.imp fun s1 δ1 h1 => h1.imp fun s2 δ2 ⟨i, j, e1, e2, q⟩ => ⟨.int i, .int j, .bool (g i j), .inl e1, .inl e2, opP_flat rfl fun B H u v Q e d1 d2 k => ⟨i, j, dr_int d1, dr_int d2, k⟩, q⟩)
theorem ev_neg {g : Int → Int} {Φ : Slot → List Slot → Prop} (h : EvS K ta δ fun s1 δ1 => ∃ i, s1 = .pu (.int i) ∧ Φ (.pu (.int (g i))) δ1) : EvS K (tUn (rU fun i => .int (g i)) ta) δ Φ :=
  ev_unP (r := rU fun i => .int (g i)) (h.imp fun s1 δ1 ⟨i, e1, q⟩ => ⟨.int i, .int (g i), .inl e1, unP_flat rfl fun B H u Q e d1 k => ⟨i, dr_int d1, k⟩, q⟩)
/-! ### == of scalars -/
def eqF (x y : PyData) : Bool := decide (valD x = valD y)
theorem eqF_int (i j : Int) : eqF (.int i) (.int j) = decide (i = j) := by unfold eqF valD; simp
theorem eqF_str (i j : Str) : eqF (.str i) (.str j) = decide (i = j) := by unfold eqF valD; simp
def scF (x y : PyData) : Bool := flatD x && flatD y && scal (valD x) (valD y)
theorem ev_eq {Φ : Slot → List Slot → Prop} (h : EvS K ta δ fun s1 δ1 => EvS K tb δ1 fun s2 δ2 => ∃ x y, s1 = .pu x ∧ s2 = .pu y ∧ scF x y = true ∧ Φ (.pu (.bool (eqF x y))) δ2) : EvS K (tOp rEq ta tb) δ Φ :=
  ev_opP (h.imp fun s1 δ1 h1 => h1.imp fun s2 δ2 ⟨x, y, e1, e2, c, q⟩ => ⟨x, y, .bool (eqF x y), .inl e1, .inl e2, opP_flat rfl fun B H u v Q e d1 d2 k => by
    unfold scF at c
    rw [Bool.and_eq_true, Bool.and_eq_true] at c
    rw [dr_flat c.1.1 d1, dr_flat c.1.2 d2]
    exact ⟨c.2, k⟩, q⟩)
theorem ev_ne {Φ : Slot → List Slot → Prop} (h : EvS K ta δ fun s1 δ1 => EvS K tb δ1 fun s2 δ2 => ∃ x y, s1 = .pu x ∧ s2 = .pu y ∧ scF x y = true ∧ Φ (.pu (.bool (!eqF x y))) δ2) : EvS K (tOp rNe ta tb) δ Φ :=
  ev_opP (h.imp fun s1 δ1 h1 => h1.imp fun s2 δ2 ⟨x, y, e1, e2, c, q⟩ => ⟨x, y, .bool (!eqF x y), .inl e1, .inl e2, opP_flat rfl fun B H u v Q e d1 d2 k => by
    unfold scF at c
    rw [Bool.and_eq_true, Bool.and_eq_true] at c
    rw [dr_flat c.1.1 d1, dr_flat c.1.2 d2]
    exact ⟨c.2, k⟩, q⟩)
theorem ev_eqI {Φ : Slot → List Slot → Prop} (h : EvS K ta δ fun s1 δ1 => EvS K tb δ1 fun s2 δ2 => ∃ i j, s1 = .pu (.int i) ∧ s2 = .pu (.int j) ∧ Φ (.pu (.bool (decide (i = j)))) δ2) : EvS K (tOp rEq ta tb) δ Φ :=
  ev_eq (h.imp fun s1 δ1 h1 => h1.imp fun s2 δ2 ⟨i, j, e1, e2, q⟩ => ⟨_, _, e1, e2, rfl, by rw [eqF_int]; exact q⟩)
theorem ev_eqS {Φ : Slot → List Slot → Prop} (h : EvS K ta δ fun s1 δ1 => EvS K tb δ1 fun s2 δ2 => ∃ i j, s1 = .pu (.str i) ∧ s2 = .pu (.str j) ∧ Φ (.pu (.bool (decide (i = j)))) δ2) : EvS K (tOp rEq ta tb) δ Φ :=
  ev_eq (h.imp fun s1 δ1 h1 => h1.imp fun s2 δ2 ⟨i, j, e1, e2, q⟩ => ⟨_, _, e1, e2, rfl, by rw [eqF_str]; exact q⟩)
theorem ev_neI {Φ : Slot → List Slot → Prop} (h : EvS K ta δ fun s1 δ1 => EvS K tb δ1 fun s2 δ2 => ∃ i j, s1 = .pu (.int i) ∧ s2 = .pu (.int j) ∧ Φ (.pu (.bool (!decide (i = j)))) δ2) : EvS K (tOp rNe ta tb) δ Φ :=
  ev_ne (h.imp fun s1 δ1 h1 => h1.imp fun s2 δ2 ⟨i, j, e1, e2, q⟩ => ⟨_, _, e1, e2, rfl, by rw [eqF_int]; exact q⟩)
theorem ev_neS {Φ : Slot → List Slot → Prop} (h : EvS K ta δ fun s1 δ1 => EvS K tb δ1 fun s2 δ2 => ∃ i j, s1 = .pu (.str i) ∧ s2 = .pu (.str j) ∧ Φ (.pu (.bool (!decide (i = j)))) δ2) : EvS K (tOp rNe ta tb) δ Φ :=
  ev_ne (h.imp fun s1 δ1 h1 => h1.imp fun s2 δ2 ⟨i, j, e1, e2, q⟩ => ⟨_, _, e1, e2, rfl, by rw [eqF_str]; exact q⟩)
/-! ### deep == -/
theorem ev_eqD {Φ : Slot → List Slot → Prop} (h : EvS K ta δ fun s1 δ1 => EvS K tb δ1 fun s2 δ2 => ∃ x y, den K δ2 s1 x ∧ den K δ2 s2 y ∧ SeqAt.shaped x = true ∧ SeqAt.shaped y = true ∧ Φ (.pu (.bool (PyData.eqv x y))) δ2) : EvS K (tOp (rEqD K) ta tb) δ Φ :=
  ev_opP (h.imp fun s1 δ1 h1 => h1.imp fun s2 δ2 ⟨x, y, e1, e2, c1, c2, q⟩ => ⟨x, y, .bool (PyData.eqv x y), e1, e2, opP_flat rfl fun B H u v Q e d1 d2 k => ⟨x, y, d1.dp e, d2.dp e, c1, c2, k⟩, q⟩)
theorem ev_neD {Φ : Slot → List Slot → Prop} (h : EvS K ta δ fun s1 δ1 => EvS K tb δ1 fun s2 δ2 => ∃ x y, den K δ2 s1 x ∧ den K δ2 s2 y ∧ SeqAt.shaped x = true ∧ SeqAt.shaped y = true ∧ Φ (.pu (.bool (!PyData.eqv x y))) δ2) : EvS K (tOp (rNeD K) ta tb) δ Φ :=
  ev_opP (h.imp fun s1 δ1 h1 => h1.imp fun s2 δ2 ⟨x, y, e1, e2, c1, c2, q⟩ => ⟨x, y, .bool (!PyData.eqv x y), e1, e2, opP_flat rfl fun B H u v Q e d1 d2 k => ⟨x, y, d1.dp e, d2.dp e, c1, c2, k⟩, q⟩)
/-! ### in, is None -/
def memD (x : PyData) (ds : List PyData) : Bool := ds.any fun y => eqV (valD y) (valD x)
theorem inV_mem {H : Hp} {x : PyData} : ∀ {vs : List V} {ds : List PyData}, ds.all flatD = true → DpAll K H vs ds → inV (valD x) vs = memD x ds
  | _, _, _, .nil => rfl
  | _, d :: ds, f, .cons r t => by
    rw [List.all_cons, Bool.and_eq_true] at f
    unfold inV memD
    rw [List.any_cons, List.any_cons, flat_val f.1 r]
    have := inV_mem (x := x) f.2 t
    unfold inV memD at this
    rw [this]
theorem ev_in {neg : Bool} {Φ : Slot → List Slot → Prop} (h : EvS K ta δ fun s1 δ1 => EvS K tb δ1 fun s2 δ2 => ∃ x ds, s1 = .pu x ∧ (den K δ2 s2 (.list ds) ∨ den K δ2 s2 (.tuple ds)) ∧ flatD x = true ∧ ds.all flatD = true ∧ Φ (.pu (.bool (if neg then !memD x ds else memD x ds))) δ2) : EvS K (tOp (rIn K neg) ta tb) δ Φ :=
  ev_opP (h.imp fun s1 δ1 h1 => h1.imp fun s2 δ2 ⟨x, ds, e1, e2, c1, c2, q⟩ => by
    rcases e2 with e2 | e2
    · refine ⟨x, .list ds, .bool (if neg then !memD x ds else memD x ds), .inl e1, e2, opP_flat rfl fun B H u v Q e d1 d2 k => ?_, q⟩
      obtain ⟨p, xs, rfl, hs, ha⟩ := d2.lst e
      rw [dr_flat c1 d1]
      refine ⟨p, xs, rfl, .inl hs, flat_flat (H := B) c1 (dp_flat (K := K) c1), dpa_flat c2 ha, ?_⟩
      rw [inV_mem c2 ha]
      exact k
    · refine ⟨x, .tuple ds, .bool (if neg then !memD x ds else memD x ds), .inl e1, e2, opP_flat rfl fun B H u v Q e d1 d2 k => ?_, q⟩
      obtain ⟨p, xs, rfl, hs, ha⟩ := d2.tup e
      rw [dr_flat c1 d1]
      refine ⟨p, xs, rfl, .inr hs, flat_flat (H := B) c1 (dp_flat (K := K) c1), dpa_flat c2 ha, ?_⟩
      rw [inV_mem c2 ha]
      exact k)
theorem memD_int {i : Int} {ns : List Int} : memD (.int i) (ns.map PyData.int) = decide (i ∈ ns) := by
  induction ns with
  | nil => simp [memD]
  | cons n r ih =>
    have e : memD (.int i) ((n :: r).map PyData.int) = (eqV (.int n) (.int i) || memD (.int i) (r.map PyData.int)) := rfl
    rw [e, ih]
    by_cases h : n = i
    · subst h; simp [eqV]
    · have h' : ¬ i = n := fun z => h z.symm
      simp [eqV, h, h']
theorem memD_str {i : Str} {ns : List Str} : memD (.str i) (ns.map PyData.str) = decide (i ∈ ns) := by
  induction ns with
  | nil => simp [memD]
  | cons n r ih =>
    have e : memD (.str i) ((n :: r).map PyData.str) = (eqV (.str n) (.str i) || memD (.str i) (r.map PyData.str)) := rfl
    rw [e, ih]
    by_cases h : n = i
    · subst h; simp [eqV]
    · have h' : ¬ i = n := fun z => h z.symm
      simp [eqV, h, h']
theorem all_ints (ns : List Int) : (ns.map PyData.int).all flatD = true := by induction ns with | nil => rfl | cons n r ih => rw [List.map_cons, List.all_cons, ih]; rfl
theorem all_strs (ns : List Str) : (ns.map PyData.str).all flatD = true := by induction ns with | nil => rfl | cons n r ih => rw [List.map_cons, List.all_cons, ih]; rfl
theorem ev_inI {neg : Bool} {Φ : Slot → List Slot → Prop} (h : EvS K ta δ fun s1 δ1 => EvS K tb δ1 fun s2 δ2 => ∃ (i : Int) (ns : List Int), s1 = .pu (.int i) ∧ (den K δ2 s2 (.list (ns.map PyData.int)) ∨ den K δ2 s2 (.tuple (ns.map PyData.int))) ∧ Φ (.pu (.bool (if neg then !decide (i ∈ ns) else decide (i ∈ ns)))) δ2) : EvS K (tOp (rIn K neg) ta tb) δ Φ :=
  ev_in (h.imp fun s1 δ1 h1 => h1.imp fun s2 δ2 ⟨i, ns, e1, e2, q⟩ => ⟨_, _, e1, e2, rfl, all_ints ns, by rw [memD_int]; exact q⟩)
theorem ev_inS {neg : Bool} {Φ : Slot → List Slot → Prop} (h : EvS K ta δ fun s1 δ1 => EvS K tb δ1 fun s2 δ2 => ∃ (i : Str) (ns : List Str), s1 = .pu (.str i) ∧ (den K δ2 s2 (.list (ns.map PyData.str)) ∨ den K δ2 s2 (.tuple (ns.map PyData.str))) ∧ Φ (.pu (.bool (if neg then !decide (i ∈ ns) else decide (i ∈ ns)))) δ2) : EvS K (tOp (rIn K neg) ta tb) δ Φ :=
  ev_in (h.imp fun s1 δ1 h1 => h1.imp fun s2 δ2 ⟨i, ns, e1, e2, q⟩ => ⟨_, _, e1, e2, rfl, all_strs ns, by rw [memD_str]; exact q⟩)
def isNone : PyData → Bool | .none => true | _ => false
theorem isN_dr {B H : Hp} {v : V} {d : PyData} (h : Dr K B H v d) : decide (v = .non) = isNone d := by
  rcases h with h | ⟨p, xs, ds, rfl, rfl, _⟩
  · cases h <;> rfl
  · rfl
theorem ev_isN {Φ : Slot → List Slot → Prop} (h : EvS K ta δ fun s δ1 => ∃ x, den K δ1 s x ∧ Φ (.pu (.bool (isNone x))) δ1) : EvS K (tIsN ta) δ Φ :=
  ev_unP (r := fun x H1 Q => Q (.bl (decide (x = .non))) H1) (h.imp fun s δ1 ⟨x, e, q⟩ => ⟨x, .bool (isNone x), e, unP_flat rfl fun B H u Q e d k => by rw [isN_dr d]; exact k, q⟩)
theorem ev_notN {Φ : Slot → List Slot → Prop} (h : EvS K ta δ fun s δ1 => ∃ x, den K δ1 s x ∧ Φ (.pu (.bool (!isNone x))) δ1) : EvS K (tNotN ta) δ Φ :=
  ev_unP (r := fun x H1 Q => Q (.bl (!decide (x = .non))) H1) (h.imp fun s δ1 ⟨x, e, q⟩ => ⟨x, .bool (!isNone x), e, unP_flat rfl fun B H u Q e d k => by rw [isN_dr d]; exact k, q⟩)
/-! ### items -/
theorem atI_dpa {H : Hp} {vs : List V} {ds : List PyData} {i : Int} {d : PyData} (h : DpAll K H vs ds) (e : atI ds i = some d) : ∃ v, atI vs i = some v ∧ Dp K H v d := by
  unfold atI at e ⊢
  rw [dpa_len h]
  cases q : ixN ds.length i with
  | none => rw [q] at e; cases e
  | some j =>
    rw [q] at e
    exact dpa_get h e
theorem ev_ixL {Φ : Slot → List Slot → Prop} (h : EvS K ta δ fun s1 δ1 => EvS K tb δ1 fun s2 δ2 => ∃ ds i d, den K δ2 s1 (.list ds) ∧ s2 = .pu (.int i) ∧ atI ds i = some d ∧ Φ (.pu d) δ2) : EvS K (tOp (rIxL K) ta tb) δ Φ :=
  ev_opP (h.imp fun s1 δ1 h1 => h1.imp fun s2 δ2 ⟨ds, i, d, e1, e2, hi, q⟩ => ⟨.list ds, .int i, d, e1, .inl e2, fun B H u v Q e d1 d2 k => by
    obtain ⟨p, xs, rfl, hs, ha⟩ := d1.lst e
    obtain ⟨w, hw, hd⟩ := atI_dpa ha hi
    exact ⟨p, xs, i, w, rfl, dr_int d2, hs, hw, k w B H (Gr.refl e) hd⟩, q⟩)
theorem ev_ixT {Φ : Slot → List Slot → Prop} (h : EvS K ta δ fun s1 δ1 => EvS K tb δ1 fun s2 δ2 => ∃ ds i d, s1 = .pu (.tuple ds) ∧ s2 = .pu (.int i) ∧ atI ds i = some d ∧ Φ (.pu d) δ2) : EvS K (tOp (rIxT K) ta tb) δ Φ :=
  ev_opP (h.imp fun s1 δ1 h1 => h1.imp fun s2 δ2 ⟨ds, i, d, e1, e2, hi, q⟩ => ⟨.tuple ds, .int i, d, .inl e1, .inl e2, fun B H u v Q e d1 d2 k => by
    obtain ⟨p, xs, rfl, hs, ha⟩ := d1.tup e
    obtain ⟨w, hw, hd⟩ := atI_dpa ha hi
    exact ⟨p, xs, i, w, rfl, dr_int d2, hs, hw, k w B H (Gr.refl e) hd⟩, q⟩)
theorem atI_nat' {α : Type} {xs : List α} {i : Nat} {x : α} (h : xs[i]? = some x) : atI xs (i : Int) = some x := atI_nat h
/-! ### + of lists, tuples, texts; * -/
theorem ev_catA {Φ : Slot → List Slot → Prop} (h : EvS K ta δ fun s1 δ1 => EvS K tb δ1 fun s2 δ2 => ∃ xs ys, s1 = .pu (.tuple xs) ∧ s2 = .pu (.tuple ys) ∧ xs.length + ys.length ≤ 100000 ∧ Φ (.pu (.tuple (xs ++ ys))) δ2) : EvS K (tOp (rCatA K) ta tb) δ Φ :=
  ev_opP (h.imp fun s1 δ1 h1 => h1.imp fun s2 δ2 ⟨ds, es, e1, e2, hl, q⟩ => ⟨.tuple ds, .tuple es, .tuple (ds ++ es), .inl e1, .inl e2, fun B H u v Q e d1 d2 k => by
    obtain ⟨p, xs, rfl, hs, ha⟩ := d1.tup e
    obtain ⟨p2, ys, rfl, hs2, ha2⟩ := d2.tup e
    have l1 := dpa_len ha
    have l2 := dpa_len ha2
    refine ⟨p, p2, xs, ys, rfl, rfl, hs, hs2, Evl.sz_of (by omega), fun z => ?_, fun z1 z2 => ?_, fun z1 z2 q hq => ?_⟩
    · subst z
      cases ha
      rcases d2 with d2 | ⟨_, _, _, _, z, _⟩
      · exact k _ B H (Gr.refl e) d2
      · cases z
    · subst z2
      cases ha2
      rw [List.append_nil] at k
      rcases d1 with d1 | ⟨_, _, _, _, z, _⟩
      · exact k _ B H (Gr.refl e) d1
      · cases z
    · have g := Gr.new (o := .tup (xs ++ ys)) e hq
      exact k _ _ _ g (.tup (SqT.of upd_same) (dpa_mono g.b _ _ (dpa_append ha ha2))), q⟩)
theorem ev_addS {Φ : Slot → List Slot → Prop} (h : EvS K ta δ fun s1 δ1 => EvS K tb δ1 fun s2 δ2 => ∃ i j, s1 = .pu (.str i) ∧ s2 = .pu (.str j) ∧ i.length + j.length ≤ sizeLine ∧ Φ (.pu (.str (i ++ j))) δ2) : EvS K (tOp (fun x y H Q => ∃ i j, x = .str i ∧ y = .str j ∧ i.length + j.length ≤ sizeLine ∧ Q (.str (i ++ j)) H) ta tb) δ Φ :=
  ev_opP (h.imp fun s1 δ1 h1 => h1.imp fun s2 δ2 ⟨i, j, e1, e2, hl, q⟩ => ⟨.str i, .str j, .str (i ++ j), .inl e1, .inl e2, opP_flat rfl fun B H u v Q e d1 d2 k => ⟨i, j, dr_str d1, dr_str d2, hl, k⟩, q⟩)
/-! ### displays -/
theorem AOk.all {B H : Hp} {σ : L2.St} {ss : List Slot} {ds : List PyData} : ∀ {vs : List V} {M : Addr → Prop}, AOk K σ δ B H vs ss M → ss = ds.map Slot.pu → DpAll K B vs ds ∧ ∀ a, ¬ M a := by
  intro vs M h
  induction h generalizing ds with
  | nil => intro e; cases ds with
    | nil => exact ⟨.nil, fun _ z => z⟩
    | cons _ _ => cases e
  | cons h1 h2 h3 ih =>
    intro e
    cases ds with
    | nil => cases e
    | cons d ds =>
      rw [List.map_cons] at e
      injection e with e1 e2
      subst e1
      obtain ⟨a1, a2⟩ := ih e2
      exact ⟨.cons h1.1 a1, fun a z => z.elim (h1.2 a) (a2 a)⟩
/-- arguments, each to data that stays -/
def EvDs (K : PySem.W.Frag) (ta : TA) (δ : List Slot) (Φ : List PyData → List Slot → Prop) : Prop :=
  ∀ (B H : Hp) (σ : L2.St) (F : Addr → Prop) (Q : List V → Hp → Prop), Sd K B H σ δ F →
    (∀ vs ds B2 H2 δ2, Ex B B2 → (∀ a, F a → H2 a = H a) → Sd K B2 H2 σ δ2 F → DpAll K B2 vs ds → Φ ds δ2 → Q vs H2) → ta σ H Q
theorem eds_nil {Φ : List PyData → List Slot → Prop} (h : Φ [] δ) : EvDs K tNil δ Φ := fun B H σ F Q S k => k [] [] B H δ (Ex.refl _) (fun _ _ => rfl) S .nil h
theorem eds_cons {tr : TA} {Φ : List PyData → List Slot → Prop} (h : EvS K ta δ fun s δ1 => ∃ d, frz K s d ∧ EvDs K tr δ1 fun ds δ2 => Φ (d :: ds) δ2) : EvDs K (tCons ta tr) δ Φ := fun B H σ F Q S k =>
  ed_of (Φ := fun d δ1 => EvDs K tr δ1 fun ds δ2 => Φ (d :: ds) δ2) h B H σ F _ S fun v d B1 H1 δ1 e1 f1 S1 hd p1 => p1 B1 H1 σ F _ S1 fun vs ds B2 H2 δ2 e2 f2 S2 ha p2 =>
    k (v :: vs) (d :: ds) B2 H2 δ2 (e1.trans e2) (fun a z => (f2 a z).trans (f1 a z)) S2 (.cons (dp_mono e2 _ _ hd) ha) p2
theorem ev_tup {t : TA} {Φ : Slot → List Slot → Prop} (h : EvDs K t δ fun ds δ1 => ds.length ≤ 100000 ∧ Φ (.pu (.tuple ds)) δ1) : EvS K (tTup t) δ Φ := fun B H σ F Q S k =>
  h B H σ F _ S fun vs ds B1 H1 δ1 e1 f1 S1 ha ⟨hl, q⟩ => ⟨Evl.sz_of (by rw [dpa_len ha]; exact hl), fun p hp => by
    have g := Gr.new (o := .tup vs) S1.bh hp
    exact k _ (fun _ => False) (.pu (.tuple ds)) _ _ δ1 (e1.trans g.b) (fun a z => by rw [ex_eq g.h (S1.fl a z), f1 a z]) ((S1.grow g).less fun a z => z.elim id False.elim) ⟨.tup (SqT.of upd_same) (dpa_mono g.b _ _ ha), fun _ z => z⟩ (fun _ z => z.elim) q⟩
theorem ev_lst {t : TA} {Φ : Slot → List Slot → Prop} (h : EvDs K t δ fun ds δ1 => ds.length ≤ 100000 ∧ Φ (.ow (RL K ds)) δ1) : EvS K (tLst t) δ Φ := fun B H σ F Q S k =>
  h B H σ F _ S fun vs ds B1 H1 δ1 e1 f1 S1 ha ⟨hl, q⟩ => ⟨Evl.sz_of (by rw [dpa_len ha]; exact hl), fun p hp => by
    refine k (.ref p) (fun a => a = p) (.ow (RL K ds)) B1 _ δ1 e1 (fun a z => ?_) (sd_own S1 hp) (rl_new ha) (fun a z f => ?_) q
    · rw [upd_ne (fun z2 => S1.fl a z (by rw [z2]; exact hp)), f1 a z]
    · rw [z] at f; exact S1.fl p f hp⟩
/-! ### and, or, not, if -/
theorem ev_andV {Φ : Slot → List Slot → Prop} (h : EvS K ta δ fun s δ1 => ∃ c, s = .pu (.bool c) ∧ if c = true then EvS K tb δ1 Φ else Φ (.pu (.bool false)) δ1) : EvS K (tAndV ta tb) δ Φ := fun B H σ F Q S k =>
  h B H σ F _ S fun v M s B1 H1 δ1 e1 f1 S1 w n ⟨c, es, p⟩ => by
    subst es
    refine ⟨c, dp_bl_inv w.1, ?_⟩
    have S1' : Sd K B1 H1 σ δ1 F := S1.less fun a z => .inl z
    cases c with
    | true =>
      rw [if_pos rfl] at p ⊢
      exact p B1 H1 σ F Q S1' fun v M s B2 H2 δ2 e2 f2 S2 w n q => k v M s B2 H2 δ2 (e1.trans e2) (fun a z => (f2 a z).trans (f1 a z)) S2 w n q
    | false =>
      rw [if_neg Bool.false_ne_true] at p ⊢
      exact k _ (fun _ => False) (.pu (.bool false)) B1 H1 δ1 e1 f1 (S1'.less fun a z => z.elim id False.elim) ⟨.bl false, fun _ z => z⟩ (fun _ z => z.elim) p
theorem ev_orV {Φ : Slot → List Slot → Prop} (h : EvS K ta δ fun s δ1 => ∃ c, s = .pu (.bool c) ∧ if c = true then Φ (.pu (.bool true)) δ1 else EvS K tb δ1 Φ) : EvS K (tOrV ta tb) δ Φ := fun B H σ F Q S k =>
  h B H σ F _ S fun v M s B1 H1 δ1 e1 f1 S1 w n ⟨c, es, p⟩ => by
    subst es
    refine ⟨c, dp_bl_inv w.1, ?_⟩
    have S1' : Sd K B1 H1 σ δ1 F := S1.less fun a z => .inl z
    cases c with
    | false =>
      rw [if_neg Bool.false_ne_true] at p ⊢
      exact p B1 H1 σ F Q S1' fun v M s B2 H2 δ2 e2 f2 S2 w n q => k v M s B2 H2 δ2 (e1.trans e2) (fun a z => (f2 a z).trans (f1 a z)) S2 w n q
    | true =>
      rw [if_pos rfl] at p ⊢
      exact k _ (fun _ => False) (.pu (.bool true)) B1 H1 δ1 e1 f1 (S1'.less fun a z => z.elim id False.elim) ⟨.bl true, fun _ z => z⟩ (fun _ z => z.elim) p
theorem ev_notV {Φ : Slot → List Slot → Prop} (h : EvS K ta δ fun s δ1 => ∃ c, s = .pu (.bool c) ∧ Φ (.pu (.bool (!c))) δ1) : EvS K (tNotV ta) δ Φ :=
  ev_unP (r := fun x H1 Q => ∃ c, x = .bl c ∧ Q (.bl (!c)) H1) (h.imp fun s δ1 ⟨c, e, q⟩ => ⟨.bool c, .bool (!c), .inl e, unP_flat rfl fun B H u Q e d k => ⟨c, dr_bl d, k⟩, q⟩)
theorem ev_if {Φ : Slot → List Slot → Prop} (h : EvT K tt δ fun c δ1 => if c = true then EvS K ta δ1 Φ else EvS K tb δ1 Φ) : EvS K (tIf tt ta tb) δ Φ := fun B H σ F Q S k =>
  h B H σ F _ S fun c B1 H1 δ1 e1 f1 S1 p => by
    cases c with
    | true =>
      rw [if_pos rfl] at p ⊢
      exact p B1 H1 σ F Q S1 fun v M s B2 H2 δ2 e2 f2 S2 w n q => k v M s B2 H2 δ2 (e1.trans e2) (fun a z => (f2 a z).trans (f1 a z)) S2 w n q
    | false =>
      rw [if_neg Bool.false_ne_true] at p ⊢
      exact p B1 H1 σ F Q S1 fun v M s B2 H2 δ2 e2 f2 S2 w n q => k v M s B2 H2 δ2 (e1.trans e2) (fun a z => (f2 a z).trans (f1 a z)) S2 w n q
/-! ### tests -/
theorem et_B {Φ : Bool → List Slot → Prop} (h : EvS K te δ fun s δ1 => ∃ c, s = .pu (.bool c) ∧ Φ c δ1) : EvT K (tB te) δ Φ := fun B H σ F Q S k =>
  h B H σ F _ S fun v M s B1 H1 δ1 e1 f1 S1 w n ⟨c, es, p⟩ => by
    subst es
    exact ⟨c, dp_bl_inv w.1, k c B1 H1 δ1 e1 f1 (S1.less fun a z => .inl z) p⟩
theorem et_test {Φ : Bool → List Slot → Prop} (h : EvS K te δ fun s δ1 => ∃ c, s = .pu (.bool c) ∧ Φ c δ1) : EvT K (tTest te) δ Φ := et_B h
theorem et_and {Φ : Bool → List Slot → Prop} (h : EvT K tt δ fun c δ1 => if c = true then EvT K tu δ1 Φ else Φ false δ1) : EvT K (tAnd tt tu) δ Φ := fun B H σ F Q S k =>
  h B H σ F _ S fun c B1 H1 δ1 e1 f1 S1 p => by
    cases c with
    | true =>
      rw [if_pos rfl] at p ⊢
      exact p B1 H1 σ F Q S1 fun b B2 H2 δ2 e2 f2 S2 q => k b B2 H2 δ2 (e1.trans e2) (fun a z => (f2 a z).trans (f1 a z)) S2 q
    | false =>
      rw [if_neg Bool.false_ne_true] at p ⊢
      exact k false B1 H1 δ1 e1 f1 S1 p
theorem et_or {Φ : Bool → List Slot → Prop} (h : EvT K tt δ fun c δ1 => if c = true then Φ true δ1 else EvT K tu δ1 Φ) : EvT K (tOr tt tu) δ Φ := fun B H σ F Q S k =>
  h B H σ F _ S fun c B1 H1 δ1 e1 f1 S1 p => by
    cases c with
    | false =>
      rw [if_neg Bool.false_ne_true] at p ⊢
      exact p B1 H1 σ F Q S1 fun b B2 H2 δ2 e2 f2 S2 q => k b B2 H2 δ2 (e1.trans e2) (fun a z => (f2 a z).trans (f1 a z)) S2 q
    | true =>
      rw [if_pos rfl] at p ⊢
      exact k true B1 H1 δ1 e1 f1 S1 p
theorem et_not {Φ : Bool → List Slot → Prop} (h : EvT K tt δ fun c δ1 => Φ (!c) δ1) : EvT K (tNot tt) δ Φ := fun B H σ F Q S k =>
  h B H σ F _ S fun c B1 H1 δ1 e1 f1 S1 p => k (!c) B1 H1 δ1 e1 f1 S1 p
/-- a chain of two comparisons of ints -/
theorem ev_chain {g g' : Int → Int → Bool} {Φ : Slot → List Slot → Prop} (h : EvS K ta δ fun s1 δ1 => EvS K tb δ1 fun s2 δ2 => ∃ i j, s1 = .pu (.int i) ∧ s2 = .pu (.int j) ∧ if g i j = true then EvS K tc δ2 (fun s3 δ3 => ∃ k, s3 = .pu (.int k) ∧ Φ (.pu (.bool (g' j k))) δ3) else Φ (.pu (.bool false)) δ2) :
    EvS K (tChain (rI0 fun i j => .bl (g i j)) (rI0 fun i j => .bl (g' i j)) ta tb tc) δ Φ := fun B H σ F Q S k =>
  h B H σ F _ S fun v1 M1 s1 B1 H1 δ1 e1 f1 S1 w1 n1 p1 => p1 B1 H1 σ _ _ S1 fun v2 M2 s2 B2 H2 δ2 e2 f2 S2 w2 n2 ⟨i, j, es1, es2, p⟩ => by
    subst es1 es2
    refine ⟨i, j, dp_int_inv w1.1, dp_int_inv w2.1, _, rfl, ?_⟩
    have S2' : Sd K B2 H2 σ δ2 F := S2.less fun a z => .inl (.inl z)
    have f2' : ∀ a, F a → H2 a = H a := fun a z => (f2 a (.inl z)).trans (f1 a z)
    by_cases hc : g i j = true
    · rw [if_pos hc] at p ⊢
      refine p B2 H2 σ F _ S2' fun v3 M3 s3 B3 H3 δ3 e3 f3 S3 w3 n3 ⟨l, es3, q⟩ => ?_
      subst es3
      exact ⟨j, l, dp_int_inv w2.1, dp_int_inv w3.1, k _ (fun _ => False) (.pu (.bool _)) B3 H3 δ3 ((e1.trans e2).trans e3) (fun a z => (f3 a z).trans (f2' a z)) (S3.less fun a z => z.elim .inl False.elim) ⟨.bl _, fun _ z => z⟩ (fun _ z => z.elim) q⟩
    · rw [if_neg hc] at p ⊢
      exact k _ (fun _ => False) (.pu (.bool _)) B2 H2 δ2 (e1.trans e2) f2' (S2'.less fun a z => z.elim id False.elim) ⟨.bl _, fun _ z => z⟩ (fun _ z => z.elim) p
end
end Dl

namespace Dl
open PySem PySem.Spec PyProof.Rows L2
open Evl (Ex)
/-! ### statements -/
/-- what is told of something raised: its class, its own dict -/
abbrev XP := Hp → Hp → Value → Option Addr → Prop
structure Dn where
  nx : List Slot → Prop
  rt : Slot → List Slot → Prop
  bk : List Slot → Prop := fun _ => False
  ct : List Slot → Prop := fun _ => False
  ex : L2.XK → XP → Prop := fun _ _ => False
/-- what follows, lifted -/
structure Lift (K : PySem.W.Frag) (B H : Hp) (F : Addr → Prop) (Dn : Dn) (D : Ends) : Prop where
  nx : ∀ B2 H2 σ2 δ2, Ex B B2 → (∀ a, F a → H2 a = H a) → Sd K B2 H2 σ2 δ2 F → Dn.nx δ2 → D.nx σ2 H2
  bk : ∀ B2 H2 σ2 δ2, Ex B B2 → (∀ a, F a → H2 a = H a) → Sd K B2 H2 σ2 δ2 F → Dn.bk δ2 → D.bk σ2 H2
  ct : ∀ B2 H2 σ2 δ2, Ex B B2 → (∀ a, F a → H2 a = H a) → Sd K B2 H2 σ2 δ2 F → Dn.ct δ2 → D.ct σ2 H2
  rt : ∀ v M s B2 H2 σ2 δ2, Ex B B2 → (∀ a, F a → H2 a = H a) → Sd K B2 H2 σ2 δ2 (fun a => F a ∨ M a) → VOk K σ2 δ2 B2 H2 v M s → (∀ a, M a → ¬ F a) → Dn.rt s δ2 → D.rt v H2
  ex : ∀ (E : L2.XK) (p : XP) B2 H2 σ2 δ2 cls dd, Ex B B2 → (∀ a, F a → H2 a = H a) → Sd K B2 H2 σ2 δ2 F → Dn.ex E p → p B2 H2 cls dd → E cls dd H2
def ExS (K : PySem.W.Frag) (t : TS) (d : Dn) (δ : List Slot) : Prop :=
  ∀ (B H : Hp) (σ : L2.St) (F : Addr → Prop) (D : Ends), Sd K B H σ δ F → Lift K B H F d D → t D σ H
theorem Lift.step {K : PySem.W.Frag} {B H B2 H2 : Hp} {F : Addr → Prop} {d : Dn} {D : Ends} (L : Lift K B H F d D) (e : Ex B B2) (f : ∀ a, F a → H2 a = H a) : Lift K B2 H2 F d D :=
  ⟨fun B3 H3 σ2 δ2 e2 f2 S h => L.nx B3 H3 σ2 δ2 (e.trans e2) (fun a z => (f2 a z).trans (f a z)) S h, fun B3 H3 σ2 δ2 e2 f2 S h => L.bk B3 H3 σ2 δ2 (e.trans e2) (fun a z => (f2 a z).trans (f a z)) S h,
   fun B3 H3 σ2 δ2 e2 f2 S h => L.ct B3 H3 σ2 δ2 (e.trans e2) (fun a z => (f2 a z).trans (f a z)) S h, fun v M s B3 H3 σ2 δ2 e2 f2 S w n h => L.rt v M s B3 H3 σ2 δ2 (e.trans e2) (fun a z => (f2 a z).trans (f a z)) S w n h,
   fun E p B3 H3 σ2 δ2 cls dd e2 f2 S h w => L.ex E p B3 H3 σ2 δ2 cls dd (e.trans e2) (fun a z => (f2 a z).trans (f a z)) S h w⟩
section
variable {K : PySem.W.Frag} {δ : List Slot} {te ta tb tc : TE} {tt : TT} {t u : TS} {d : Dn}
theorem xs_seq (h : ExS K t { d with nx := ExS K u d } δ) : ExS K (tSeq t u) d δ := fun B H σ F D S L =>
  h B H σ F _ S ⟨fun B2 H2 σ2 δ2 e f S2 p => p B2 H2 σ2 F D S2 (L.step e f), L.bk, L.ct, L.rt, L.ex⟩
theorem xs_next (h : d.nx δ) : ExS K tNext d δ := fun B H σ F D S L => L.nx B H σ δ (Ex.refl _) (fun _ _ => rfl) S h
theorem xs_break (h : d.bk δ) : ExS K tBreak d δ := fun B H σ F D S L => L.bk B H σ δ (Ex.refl _) (fun _ _ => rfl) S h
theorem xs_cont (h : d.ct δ) : ExS K tCont d δ := fun B H σ F D S L => L.ct B H σ δ (Ex.refl _) (fun _ _ => rfl) S h
theorem xs_ret (h : EvS K te δ d.rt) : ExS K (tRet te) d δ := fun B H σ F D S L => h B H σ F _ S fun v M s B2 H2 δ2 e f S2 w n p => L.rt v M s B2 H2 σ δ2 e f S2 w n p
theorem xs_retN (h : d.rt (.pu .none) δ) : ExS K tRetN d δ := fun B H σ F D S L => L.rt .non (fun _ => False) (.pu .none) B H σ δ (Ex.refl _) (fun _ _ => rfl) (S.less fun a z => z.elim id False.elim) ⟨.non, fun _ z => z⟩ (fun _ z => z.elim) h
theorem xs_drop (h : EvS K te δ fun _ δ1 => d.nx δ1) : ExS K (tDrop te) d δ := fun B H σ F D S L => h B H σ F _ S fun v M s B2 H2 δ2 e f S2 w n p => L.nx B2 H2 σ δ2 e f (S2.less fun a z => .inl z) p
theorem xs_if (h : EvT K tt δ fun b δ1 => if b = true then ExS K t d δ1 else ExS K u d δ1) : ExS K (tIfS tt t u) d δ := fun B H σ F D S L =>
  h B H σ F _ S fun b B2 H2 δ2 e f S2 p => by
    cases b with
    | true =>
      rw [if_pos rfl] at p ⊢
      exact p B2 H2 σ F D S2 (L.step e f)
    | false =>
      rw [if_neg Bool.false_ne_true] at p ⊢
      exact p B2 H2 σ F D S2 (L.step e f)
theorem Sd.move {B H : Hp} {σ : L2.St} {F : Addr → Prop} {i j : Nat} {R : Res} {v : V} (S : Sd K B H σ δ F) (hj : δ[j]? = some (.ow R)) (hv : σ[j]? = some (some v)) (hi : i < δ.length) : Sd K B H (σ.set i (some v)) ((δ.set j .non).set i (.ow R)) F := by
  obtain ⟨ms, h1, h2, h3, h4⟩ := S.sl
  have hjl : j < δ.length := (List.getElem?_eq_some_iff.mp hj).1
  obtain ⟨v', e', hP, hb⟩ := h1 j _ hj
  rw [hv] at e'
  cases e'
  have S1 : Sd K B H σ (δ.set j .non) fun a => F a ∨ ms j a := by
    refine ⟨S.bh, by simp [S.len], fun a z => z.elim (S.fb a) (hb a), fun a z => z.elim (S.fl a) (R.live hP a), updM ms j (fun _ => False), fun l s hs => ?_, fun l l2 a q1 q2 => ?_, fun l a q z => ?_, fun l a q => ?_⟩
    · by_cases e : l = j
      · subst e
        rw [List.getElem?_set_self hjl] at hs
        cases hs
        rw [updM_eq rfl]
        exact fun _ z => z
      · rw [List.getElem?_set_ne (Ne.symm e)] at hs
        rw [updM_ne e]
        exact h1 l s hs
    · by_cases e : l = j
      · rw [updM_eq e] at q1; exact q1.elim
      · by_cases e2 : l2 = j
        · rw [updM_eq e2] at q2; exact q2.elim
        · rw [updM_ne e] at q1
          rw [updM_ne e2] at q2
          exact h2 l l2 a q1 q2
    · by_cases e : l = j
      · rw [updM_eq e] at q; exact q
      · rw [updM_ne e] at q
        exact z.elim (h3 l a q) fun z => e (h2 l j a q z)
    · rw [List.length_set]
      by_cases e : l = j
      · rw [updM_eq e] at q; exact q.elim
      · rw [updM_ne e] at q; exact h4 l a q
  exact S1.put_ow hP (fun a q f => h3 j a q f) (by rw [List.length_set]; exact hi)
/-- what a name holds behind a store -/
def asn (i : Nat) (s : Slot) (δ δ2 : List Slot) : Prop := match s with
  | .pu d => δ2 = δ.set i (.pu d)
  | .ow R => δ2 = δ.set i (.ow R)
  | .al j => ∃ R, δ[j]? = some (.ow R) ∧ δ2 = (δ.set j .non).set i (.ow R)
  | .non => False
theorem xs_asg {i : Nat} (h : EvS K te δ fun s δ1 => i < δ1.length ∧ ∃ δ2, asn i s δ1 δ2 ∧ d.nx δ2) : ExS K (tAsg te (gName i)) d δ := fun B H σ F D S L =>
  h B H σ F _ S fun v M s B2 H2 δ1 e f S2 w n ⟨hi, δ2, ha, p⟩ => by
    cases s with
    | non => exact ha.elim
    | pu x =>
      obtain rfl : δ2 = _ := ha
      exact L.nx B2 H2 _ _ e f ((S2.less fun a z => .inl z).put_pu w.1 hi) p
    | ow R =>
      obtain rfl : δ2 = _ := ha
      exact L.nx B2 H2 _ _ e f (S2.put_ow w n hi) p
    | al j =>
      obtain ⟨R, hj, rfl⟩ := ha
      exact L.nx B2 H2 _ _ e f ((S2.less fun a z => .inl z).move hj w.1 hi) p
/-! ### targets of loops -/
def setV (σ : L2.St) : List Nat → List V → L2.St
  | j :: js, u :: us => setV (σ.set j (some u)) js us
  | _, _ => σ
def setD (δ : List Slot) : List (Nat × PyData) → List Slot
  | [] => δ
  | p :: ps => setD (δ.set p.1 (.pu p.2)) ps
theorem setV_len : ∀ {js : List Nat} {us : List V} {σ : L2.St}, (setV σ js us).length = σ.length
  | [], _, _ => by cases ‹List V› <;> rfl
  | _ :: _, [], _ => rfl
  | j :: js, u :: us, σ => by
    show (setV (σ.set j (some u)) js us).length = σ.length
    rw [setV_len, List.length_set]
theorem setV_out {i : Nat} : ∀ {js : List Nat} {us : List V} {σ : L2.St}, i ∉ js → (setV σ js us)[i]? = σ[i]?
  | [], us, _, _ => by cases us <;> rfl
  | _ :: _, [], _, _ => rfl
  | j :: js, u :: us, σ, h => by
    show (setV (σ.set j (some u)) js us)[i]? = σ[i]?
    rw [setV_out fun z => h (List.mem_cons_of_mem _ z), List.getElem?_set_ne (fun z => h (by rw [z]; exact List.mem_cons_self ..))]
theorem setD_len : ∀ {as : List (Nat × PyData)} {δ : List Slot}, (setD δ as).length = δ.length
  | [], _ => rfl
  | p :: ps, δ => by
    show (setD (δ.set p.1 (.pu p.2)) ps).length = δ.length
    rw [setD_len, List.length_set]
theorem setD_out {i : Nat} : ∀ {as : List (Nat × PyData)} {δ : List Slot}, i ∉ as.map (·.1) → (setD δ as)[i]? = δ[i]?
  | [], _, _ => rfl
  | p :: ps, δ, h => by
    show (setD (δ.set p.1 (.pu p.2)) ps)[i]? = δ[i]?
    rw [setD_out fun z => h (List.mem_cons_of_mem _ z), List.getElem?_set_ne (fun z => h (List.mem_map.mpr ⟨p, List.mem_cons_self .., z⟩))]
theorem Sd.puts {B H : Hp} {F : Addr → Prop} : ∀ {as : List (Nat × PyData)} {us : List V} {σ : L2.St} {δ : List Slot}, Sd K B H σ δ F → DpAll K B us (as.map (·.2)) → (∀ p ∈ as, p.1 < δ.length) → Sd K B H (setV σ (as.map (·.1)) us) (setD δ as) F
  | [], us, σ, δ, S, h, _ => by cases h; exact S
  | p :: ps, us, σ, δ, S, h, hl => by
    cases h with
    | @cons u0 ur _ _ r t =>
      show Sd K B H (setV (σ.set p.1 (some u0)) (ps.map (·.1)) ur) (setD (δ.set p.1 (.pu p.2)) ps) F
      exact Sd.puts (S.put_pu r (hl p (List.mem_cons_self ..))) t fun q hq => by rw [List.length_set]; exact hl q (List.mem_cons_of_mem _ hq)
/-- the target g takes the datum d: the names of as are set -/
def TgS (K : PySem.W.Frag) (g : TG) (x : PyData) (as : List (Nat × PyData)) : Prop := ∀ (B H : Hp) (v : V) (σ : L2.St) (Q : L2.St → Hp → Prop), Ex B H → Dp K B v x → (∀ us, DpAll K B us (as.map (·.2)) → Q (setV σ (as.map (·.1)) us) H) → g v σ H Q
theorem tg_name {j : Nat} {x : PyData} : TgS K (gName j) x [(j, x)] := fun B H v σ Q e h k => k [v] (.cons h .nil)
theorem tg_tup2 {a b : Nat} {x y : PyData} : TgS K (gTup K 2 (gCons (gName a) (gCons (gName b) gNil))) (.tuple [x, y]) [(a, x), (b, y)] := fun B H v σ Q e h k => by
  cases h with
  | tup hs ha =>
    cases ha with
    | cons h1 ha =>
      cases ha with
      | cons h2 ha =>
        cases ha
        exact ⟨_, _, rfl, Evl.ex_t e hs, rfl, _, _, rfl, _, _, rfl, rfl, k [_, _] (.cons h1 (.cons h2 .nil))⟩
theorem tg_tup3 {a b c : Nat} {x y z : PyData} : TgS K (gTup K 3 (gCons (gName a) (gCons (gName b) (gCons (gName c) gNil)))) (.tuple [x, y, z]) [(a, x), (b, y), (c, z)] := fun B H v σ Q e h k => by
  cases h with
  | tup hs ha =>
    cases ha with
    | cons h1 ha =>
      cases ha with
      | cons h2 ha =>
        cases ha with
        | cons h3 ha =>
          cases ha
          exact ⟨_, _, rfl, Evl.ex_t e hs, rfl, _, _, rfl, _, _, rfl, _, _, rfl, rfl, k [_, _, _] (.cons h1 (.cons h2 (.cons h3 .nil)))⟩
/-- a, b = e -/
theorem xs_unpack {g : TG} (h : EvD K te δ fun x δ1 => ∃ as, TgS K g x as ∧ (∀ p ∈ as, p.1 < δ1.length) ∧ d.nx (setD δ1 as)) : ExS K (tAsg te g) d δ := fun B H σ F D S L =>
  h B H σ F _ S fun v x B2 H2 δ1 e f S2 hd ⟨as, hg, hl, p⟩ => hg B2 H2 v σ _ S2.bh hd fun us hu => L.nx B2 H2 _ _ e f (S2.puts hu hl) p
/-! ### loops -/
/-- a turn's target and body -/
def Turn1 (K : PySem.W.Frag) (g : TG) (t : TS) (d : Dn) (x : PyData) (nxt : List Slot → Prop) (δ : List Slot) : Prop :=
  ∃ as, TgS K g x as ∧ (∀ p ∈ as, p.1 < δ.length) ∧ ExS K t { d with nx := nxt, ct := nxt, bk := d.nx } (setD δ as)
theorem turn1 {g : TG} {x : PyData} {as : List (Nat × PyData)} {nxt : List Slot → Prop} (hg : TgS K g x as) (hl : ∀ p ∈ as, p.1 < δ.length) (h : ExS K t { d with nx := nxt, ct := nxt, bk := d.nx } (setD δ as)) : Turn1 K g t d x nxt δ := ⟨as, hg, hl, h⟩
theorem turn1_name {j : Nat} {x : PyData} {nxt : List Slot → Prop} (hj : j < δ.length) (h : ExS K t { d with nx := nxt, ct := nxt, bk := d.nx } (δ.set j (.pu x))) : Turn1 K (gName j) t d x nxt δ :=
  ⟨[(j, x)], tg_name, fun p hp => by rw [List.mem_singleton.mp hp]; exact hj, h⟩
theorem for_core {n : Nat} {item : Nat → PyData} {g : TG} {J : It} {B H : Hp} {σ : L2.St} {F : Addr → Prop} {D : Ends} (Pv : Nat → List Slot → Prop) (S : Sd K B H σ δ F) (F0 : Addr → Prop) (hF : ∀ a, F0 a → F a) (L : Lift K B H F0 d D) (h0 : Pv 0 δ)
    (hgo : ∀ i, i < n → ∀ B' H' σ' δ', Ex B B' → (∀ a, F a → H' a = H a) → Sd K B' H' σ' δ' F → Pv i δ' → J.go i H' ∧ ∀ x H2, J.yld i H' x H2 → ∃ B2, Gr B' H' B2 H2 ∧ Dp K B2 x (item i))
    (hst : ∀ B' H' σ' δ', Ex B B' → (∀ a, F a → H' a = H a) → Sd K B' H' σ' δ' F → Pv n δ' → J.stop n H')
    (hs : ∀ i δ', i < n → Pv i δ' → Turn1 K g t d (item i) (Pv (i + 1)) δ') (hd : ∀ δ', Pv n δ' → d.nx δ') :
    ∃ W : Nat → Nat → L2.St → Hp → Prop, (∃ m, W 0 m σ H) ∧ ∀ i m σ H, W i m σ H →
      (J.stop i H ∧ D.nx σ H) ∨ (J.go i H ∧ ∃ N : L2.St → Hp → Prop, (∀ σ' H', N σ' H' → ∃ m', m' < m ∧ W (i + 1) m' σ' H') ∧ ∀ x H', J.yld i H x H' → g x σ H' fun σ2 H2 => t { D with nx := N, ct := N, bk := D.nx } σ2 H2) := by
  refine ⟨fun i m σ' H' => m = n - i ∧ i ≤ n ∧ ∃ B' δ', Ex B B' ∧ (∀ a, F a → H' a = H a) ∧ Sd K B' H' σ' δ' F ∧ Pv i δ', ⟨n, rfl, Nat.zero_le _, B, δ, Ex.refl _, fun _ _ => rfl, S, h0⟩, ?_⟩
  rintro i m σ' H' ⟨rfl, hi, B', δ', e, f, S', p⟩
  by_cases hlt : i < n
  · obtain ⟨g1, g2⟩ := hgo i hlt B' H' σ' δ' e f S' p
    refine .inr ⟨g1, fun σ2 H2 => ∃ B2 δ2, Ex B B2 ∧ (∀ a, F a → H2 a = H a) ∧ Sd K B2 H2 σ2 δ2 F ∧ Pv (i + 1) δ2, fun σ2 H2 ⟨B2, δ2, q⟩ => ⟨n - (i + 1), by omega, rfl, hlt, B2, δ2, q⟩, fun x H2 hy => ?_⟩
    obtain ⟨B2, gr, hx⟩ := g2 x H2 hy
    obtain ⟨as, hg, hl, hb⟩ := hs i δ' hlt p
    have S2 := S'.grow gr
    have f2 : ∀ a, F a → H2 a = H a := fun a z => (ex_eq gr.h (S'.fl a z)).trans (f a z)
    refine hg B2 H2 x σ' _ S2.bh hx fun us hu => ?_
    refine hb B2 H2 _ F _ (S2.puts hu hl) ⟨fun B3 H3 σ3 δ3 e3 f3 S3 q => ⟨B3, δ3, (e.trans gr.b).trans e3, fun a z => (f3 a z).trans (f2 a z), S3, q⟩, fun B3 H3 σ3 δ3 e3 f3 S3 q => ?_,
      fun B3 H3 σ3 δ3 e3 f3 S3 q => ⟨B3, δ3, (e.trans gr.b).trans e3, fun a z => (f3 a z).trans (f2 a z), S3, q⟩, fun v M s B3 H3 σ3 δ3 e3 f3 S3 w n q => ?_, fun E p B3 H3 σ3 δ3 cls dd e3 f3 S3 q w => L.ex E p B3 H3 σ3 δ3 cls dd ((e.trans gr.b).trans e3) (fun a z => (f3 a (hF a z)).trans (f2 a (hF a z))) (S3.less hF) q w⟩
    · exact L.nx B3 H3 σ3 δ3 ((e.trans gr.b).trans e3) (fun a z => (f3 a (hF a z)).trans (f2 a (hF a z))) (S3.less hF) q
    · exact L.rt v M s B3 H3 σ3 δ3 ((e.trans gr.b).trans e3) (fun a z => (f3 a (hF a z)).trans (f2 a (hF a z))) (S3.less fun a z => z.elim (fun z => .inl (hF a z)) .inr) w (fun a z z2 => n a z (hF a z2)) q
  · have e1 : i = n := by omega
    subst e1
    exact .inl ⟨hst B' H' σ' δ' e f S' p, L.nx B' H' σ' δ' e (fun a z => f a (hF a z)) (S'.less hF) (hd δ' p)⟩
theorem xs_forR1 {g : TG} (h : EvS K ta δ fun s δ1 => ∃ k : Int, s = .pu (.int k) ∧ -(2 ^ 62) ≤ k ∧ k < 2 ^ 62 ∧ ∃ Pv : Nat → List Slot → Prop, Pv 0 δ1 ∧ (∀ (i : Nat) δ', i < k.toNat → Pv i δ' → Turn1 K g t d (.int (i : Int)) (Pv (i + 1)) δ') ∧ ∀ δ', Pv k.toNat δ' → d.nx δ') : ExS K (tFor (iRng1 (tCons ta tNil)) g t) d δ := fun B H σ F D S L =>
  h B H σ F _ S fun v M s B2 H2 δ1 e f S2 w n ⟨k, es, hk1, hk2, Pv, h0, hs, hd⟩ => by
    subst es
    refine ⟨k, by rw [dp_int_inv w.1], hk1, hk2, ?_⟩
    refine for_core (n := k.toNat) (item := fun i => .int (i : Int)) Pv (S2.less fun a z => .inl z) F (fun a z => z) (L.step e f) h0 (fun i hi B' H' σ' δ' e' f' S' p => ⟨hi, fun x H3 hy => ?_⟩) (fun B' H' σ' δ' e' f' S' p => by exact Nat.le_refl _) hs hd
    obtain ⟨e1, e2⟩ := hy
    subst e1
    refine ⟨B', Gr.refl S'.bh, ?_⟩
    rw [e2, Int.zero_add]
    exact .int _
theorem xs_forR2 {g : TG} (h : EvS K ta δ fun s δ1 => EvS K tb δ1 fun s2 δ2 => ∃ lo k : Int, s = .pu (.int lo) ∧ s2 = .pu (.int k) ∧ (-(2 ^ 62) ≤ lo ∧ lo < 2 ^ 62 ∧ -(2 ^ 62) ≤ k ∧ k < 2 ^ 62) ∧ ∃ Pv : Nat → List Slot → Prop, Pv 0 δ2 ∧ (∀ (i : Nat) δ', i < (k - lo).toNat → Pv i δ' → Turn1 K g t d (.int (lo + (i : Int))) (Pv (i + 1)) δ') ∧ ∀ δ', Pv (k - lo).toNat δ' → d.nx δ') : ExS K (tFor (iRng2 (tCons ta (tCons tb tNil))) g t) d δ := fun B H σ F D S L =>
  h B H σ F _ S fun v1 M1 s1 B1 H1 δ1 e1 f1 S1 w1 n1 p1 => p1 B1 H1 σ _ _ S1 fun v M s B2 H2 δ2 e f S2 w n ⟨lo, k, es, es2, hk, Pv, h0, hs, hd⟩ => by
    subst es es2
    refine ⟨lo, k, by rw [dp_int_inv w.1, dp_int_inv w1.1], hk, ?_⟩
    refine for_core (n := (k - lo).toNat) (item := fun i => .int (lo + (i : Int))) Pv (S2.less fun a z => .inl (.inl z)) F (fun a z => z) ((L.step e1 f1).step e fun a z => f a (.inl z)) h0 (fun i hi B' H' σ' δ' e' f' S' p => ⟨hi, fun x H3 hy => ?_⟩) (fun B' H' σ' δ' e' f' S' p => by exact Nat.le_refl _) hs hd
    obtain ⟨e1, e2⟩ := hy
    subst e1
    refine ⟨B', Gr.refl S'.bh, ?_⟩
    rw [e2]
    exact .int _
/-- an owned list at a name stays as it is from here on -/
theorem Sd.frz {B H : Hp} {σ : L2.St} {F : Addr → Prop} {j : Nat} {ds : List PyData} (S : Sd K B H σ δ F) (hj : δ[j]? = some (.ow (RL K ds))) : ∃ B2, Ex B B2 ∧ Sd K B2 H σ (δ.set j (.pu (.list ds))) F := by
  obtain ⟨v, M, ev, ⟨p, xs, rfl, hp, ha, hM⟩, hb, hF, k⟩ := S.opn hj
  have hbp : B p = none := hb p ((hM p).mpr rfl)
  have e1 : Ex B (upd B p (.lst xs)) := Ex.new hbp
  have e2 : Ex (upd B p (.lst xs)) H := fun a u q => by
    by_cases e : a = p
    · subst e; rw [upd_same] at q; cases q; exact hp
    · rw [upd_ne e] at q; exact S.bh a u q
  have q := k (upd B p (.lst xs)) H (some (.ref p)) (.pu (.list ds)) (fun _ => False) e1 e2 (fun _ _ h _ => h) (fun a o h => ?_) ⟨_, rfl, .lst (SqL.of upd_same) (dpa_mono e1 _ _ ha), fun _ z => z⟩ (fun _ z => z.elim)
  · rw [set_self ev] at q
    exact ⟨_, e1, q⟩
  · by_cases e : a = p
    · exact .inr (.inr ((hM a).mpr e))
    · rw [upd_ne e] at h; exact .inl h
theorem xs_frz {j : Nat} {ds : List PyData} (hj : δ[j]? = some (.ow (RL K ds))) (h : ExS K t d (δ.set j (.pu (.list ds)))) : ExS K t d δ := fun B H σ F D S L => by
  obtain ⟨B2, e, S2⟩ := S.frz hj
  exact h B2 H σ F D S2 (L.step e fun _ _ => rfl)
theorem ev_frz {j : Nat} {ds : List PyData} {Φ : Slot → List Slot → Prop} (hj : δ[j]? = some (.ow (RL K ds))) (h : EvS K te (δ.set j (.pu (.list ds))) Φ) : EvS K te δ Φ := fun B H σ F Q S L => by
  obtain ⟨B2, e, S2⟩ := S.frz hj
  exact h B2 H σ F Q S2 fun v M s B3 H3 δ3 e3 f3 S3 w n q => L v M s B3 H3 δ3 (e.trans e3) f3 S3 w n q
/-- over a list -/
theorem xs_forL {g : TG} (h : EvD K te δ fun x δ1 => ∃ ds, x = .list ds ∧ ∃ Pv : Nat → List Slot → Prop, Pv 0 δ1 ∧ (∀ (i : Nat) y δ', ds[i]? = some y → Pv i δ' → Turn1 K g t d y (Pv (i + 1)) δ') ∧ ∀ δ', Pv ds.length δ' → d.nx δ') : ExS K (tFor (iList K te) g t) d δ := fun B H σ F D S L =>
  h B H σ F _ S fun v x B2 H2 δ1 e f S2 hd ⟨ds, ex, Pv, h0, hs, hn⟩ => by
    subst ex
    cases hd with
    | @lst p xs _ hq ha =>
      have len := dpa_len ha
      refine ⟨p, rfl, ⟨xs, Evl.ex_l S2.bh hq⟩, ?_⟩
      refine for_core (n := ds.length) (item := fun i => ds.getD i .none) Pv S2 F (fun a z => z) (L.step e f) h0 (fun i hi B' H' σ' δ' e' f' S' p' => ?_) (fun B' H' σ' δ' e' f' S' p' => ?_) (fun i δ' hi q => hs i _ δ' (by rw [List.getD_eq_getElem?_getD, List.getElem?_eq_getElem hi]; rfl) q) hn
      · have hq' : SqL K H' p xs := Evl.ex_l (e'.trans S'.bh) hq
        obtain ⟨w, hw, hdw⟩ := dpa_get ha (List.getElem?_eq_getElem hi)
        refine ⟨⟨xs, w, hq', hw⟩, fun y H3 hy => ?_⟩
        obtain ⟨e1, e2⟩ := hy
        subst e1
        refine ⟨B', Gr.refl S'.bh, ?_⟩
        have e3 := (e2 xs hq').symm.trans hw
        cases e3
        rw [List.getD_eq_getElem?_getD, List.getElem?_eq_getElem hi]
        exact dp_mono e' _ _ hdw
      · exact ⟨xs, Evl.ex_l (e'.trans S'.bh) hq, Nat.le_of_eq len⟩
theorem xs_forT {g : TG} (h : EvD K te δ fun x δ1 => ∃ ds, x = .tuple ds ∧ ∃ Pv : Nat → List Slot → Prop, Pv 0 δ1 ∧ (∀ (i : Nat) y δ', ds[i]? = some y → Pv i δ' → Turn1 K g t d y (Pv (i + 1)) δ') ∧ ∀ δ', Pv ds.length δ' → d.nx δ') : ExS K (tFor (iTup K te) g t) d δ := fun B H σ F D S L =>
  h B H σ F _ S fun v x B2 H2 δ1 e f S2 hd ⟨ds, ex, Pv, h0, hs, hn⟩ => by
    subst ex
    cases hd with
    | @tup p xs _ hq ha =>
      have len := dpa_len ha
      refine ⟨p, rfl, ⟨xs, Evl.ex_t S2.bh hq⟩, ?_⟩
      refine for_core (n := ds.length) (item := fun i => ds.getD i .none) Pv S2 F (fun a z => z) (L.step e f) h0 (fun i hi B' H' σ' δ' e' f' S' p' => ?_) (fun B' H' σ' δ' e' f' S' p' => ?_) (fun i δ' hi q => hs i _ δ' (by rw [List.getD_eq_getElem?_getD, List.getElem?_eq_getElem hi]; rfl) q) hn
      · have hq' : SqT K H' p xs := Evl.ex_t (e'.trans S'.bh) hq
        obtain ⟨w, hw, hdw⟩ := dpa_get ha (List.getElem?_eq_getElem hi)
        refine ⟨⟨xs, w, hq', hw⟩, fun y H3 hy => ?_⟩
        obtain ⟨e1, e2⟩ := hy
        subst e1
        refine ⟨B', Gr.refl S'.bh, ?_⟩
        have e3 := (e2 xs hq').symm.trans hw
        cases e3
        rw [List.getD_eq_getElem?_getD, List.getElem?_eq_getElem hi]
        exact dp_mono e' _ _ hdw
      · exact ⟨xs, Evl.ex_t (e'.trans S'.bh) hq, Nat.le_of_eq len⟩
/-- for i, x in enumerate(a list) -/
theorem xs_forE {g : TG} (h : EvD K te δ fun x δ1 => ∃ ds, x = .list ds ∧ ∃ Pv : Nat → List Slot → Prop, Pv 0 δ1 ∧ (∀ (i : Nat) y δ', ds[i]? = some y → Pv i δ' → Turn1 K g t d (.tuple [.int (i : Int), y]) (Pv (i + 1)) δ') ∧ ∀ δ', Pv ds.length δ' → d.nx δ') : ExS K (tFor (iEnum K (tCons te tNil)) g t) d δ := fun B H σ F D S L =>
  h B H σ F _ S fun v x B2 H2 δ1 e f S2 hd ⟨ds, ex, Pv, h0, hs, hn⟩ => by
    subst ex
    cases hd with
    | @lst p xs _ hq ha =>
      have len := dpa_len ha
      refine ⟨p, xs, rfl, Evl.ex_l S2.bh hq, ?_⟩
      refine for_core (n := ds.length) (item := fun i => .tuple [.int (i : Int), ds.getD i .none]) Pv S2 F (fun a z => z) (L.step e f) h0 (fun i hi B' H' σ' δ' e' f' S' p' => ?_) (fun B' H' σ' δ' e' f' S' p' => ?_) (fun i δ' hi q => hs i _ δ' (by rw [List.getD_eq_getElem?_getD, List.getElem?_eq_getElem hi]; rfl) q) hn
      · have hq' : SqL K H' p xs := Evl.ex_l (e'.trans S'.bh) hq
        obtain ⟨w, hw, hdw⟩ := dpa_get ha (List.getElem?_eq_getElem hi)
        refine ⟨⟨xs, w, hq', hw⟩, fun y H3 hy => ?_⟩
        obtain ⟨T, x', e1, hT, e2, e3⟩ := hy
        subst e1 e2
        have e4 := (e3 xs hq').symm.trans hw
        cases e4
        have gr := Gr.new (o := .tup [.int (i : Nat), w]) S'.bh hT
        refine ⟨_, gr, .tup (SqT.of upd_same) (.cons (.int _) (.cons ?_ .nil))⟩
        rw [List.getD_eq_getElem?_getD, List.getElem?_eq_getElem hi]
        exact dp_mono (e'.trans gr.b) _ _ hdw
      · exact ⟨xs, Evl.ex_l (e'.trans S'.bh) hq, Nat.le_of_eq len⟩
theorem xs_while (W : Nat → List Slot → Prop) (m0 : Nat) (h0 : W m0 δ)
    (hs : ∀ m δ', W m δ' → EvT K tt δ' fun b δ1 => if b = true then ExS K t { d with nx := fun δ2 => ∃ m', m' < m ∧ W m' δ2, ct := fun δ2 => ∃ m', m' < m ∧ W m' δ2, bk := d.nx } δ1 else d.nx δ1) : ExS K (tWhile tt t) d δ := fun B H σ F D S L => by
  refine ⟨fun m σ' H' => ∃ B' δ', Ex B B' ∧ (∀ a, F a → H' a = H a) ∧ Sd K B' H' σ' δ' F ∧ W m δ', ⟨m0, B, δ, Ex.refl _, fun _ _ => rfl, S, h0⟩, ?_⟩
  rintro m σ' H' ⟨B', δ', e, f, S', p⟩
  refine hs m δ' p B' H' σ' F _ S' fun b B2 H2 δ2 e2 f2 S2 q => ?_
  have f2' : ∀ a, F a → H2 a = H a := fun a z => (f2 a z).trans (f a z)
  cases b with
  | true =>
    rw [if_pos rfl] at q ⊢
    refine ⟨fun σ3 H3 => ∃ m', m' < m ∧ ∃ B3 δ3, Ex B B3 ∧ (∀ a, F a → H3 a = H a) ∧ Sd K B3 H3 σ3 δ3 F ∧ W m' δ3, fun σ3 H3 z => z, q B2 H2 σ' F _ S2 ⟨fun B3 H3 σ3 δ3 e3 f3 S3 ⟨m', hm, w⟩ => ⟨m', hm, B3, δ3, (e.trans e2).trans e3, fun a z => (f3 a z).trans (f2' a z), S3, w⟩, fun B3 H3 σ3 δ3 e3 f3 S3 w => ?_,
      fun B3 H3 σ3 δ3 e3 f3 S3 ⟨m', hm, w⟩ => ⟨m', hm, B3, δ3, (e.trans e2).trans e3, fun a z => (f3 a z).trans (f2' a z), S3, w⟩, fun v M s B3 H3 σ3 δ3 e3 f3 S3 w n q => ?_, fun E p B3 H3 σ3 δ3 cls dd e3 f3 S3 q w => L.ex E p B3 H3 σ3 δ3 cls dd ((e.trans e2).trans e3) (fun a z => (f3 a z).trans (f2' a z)) S3 q w⟩⟩
    · exact L.nx B3 H3 σ3 δ3 ((e.trans e2).trans e3) (fun a z => (f3 a z).trans (f2' a z)) S3 w
    · exact L.rt v M s B3 H3 σ3 δ3 ((e.trans e2).trans e3) (fun a z => (f3 a z).trans (f2' a z)) S3 w n q
  | false =>
    rw [if_neg Bool.false_ne_true] at q ⊢
    exact L.nx B2 H2 σ' δ2 (e.trans e2) f2' S2 q
/-- x op= e, ints -/
theorem xs_aug {i : Nat} {fn : Int → Int → Int} (h : ∃ x : Int, δ[i]? = some (.pu (.int x)) ∧ EvS K te δ fun s δ1 => ∃ y : Int, s = .pu (.int y) ∧ i < δ1.length ∧ d.nx (δ1.set i (.pu (.int (fn x y))))) : ExS K (tAug i te (ipI fn)) d δ := fun B H σ F D S L => by
  obtain ⟨x, hx, h⟩ := h
  obtain ⟨v, ev, hv⟩ := S.pu hx
  refine ⟨v, ev, h B H σ F _ S fun w M s B2 H2 δ2 e f S2 wk n ⟨y, es, hi, q⟩ => ?_⟩
  subst es
  refine ⟨x, y, dp_int_inv hv, dp_int_inv wk.1, L.nx B2 H2 _ _ e f ((S2.less fun a z => .inl z).put_pu (.int _) hi) q⟩
/-- xs[i] = e, the list at the name j -/
theorem xs_setL {j : Nat} (h : EvD K te δ fun x δ1 => ∃ ds, δ1[j]? = some (.ow (RL K ds)) ∧ EvS K tb δ1 fun s δ2 => ∃ (i : Int) (k : Nat), δ2 = δ1 ∧ s = .pu (.int i) ∧ ixN ds.length i = some k ∧ d.nx (δ1.set j (.ow (RL K (ds.set k x))))) : ExS K (tAsg te (gSub (tVar j) tb rSetL)) d δ := fun B H σ F D S L =>
  h B H σ F _ S fun v x B2 H2 δ1 e f S2 hd ⟨ds, hj, p⟩ => by
    obtain ⟨vo, M, ev, hP, _⟩ := S2.opn hj
    refine ⟨vo, ev, p B2 H2 σ F _ S2 fun w Mw s B3 H3 δ3 e3 f3 S3 wk n ⟨i, k, eδ, es, hk, q⟩ => ?_⟩
    subst es eδ
    have S3' : Sd K B3 H3 σ δ3 F := S3.less fun a z => .inl z
    obtain ⟨vo2, M2, ev2, ⟨p2, xs, rfl, hp, ha, hM⟩, hb, hF, op⟩ := S3'.opn hj
    rw [ev] at ev2
    cases ev2
    refine ⟨p2, xs, i, k, rfl, dp_int_inv wk.1, hp, by rw [dpa_len ha]; exact hk, ?_⟩
    have fr : ∀ a, F a → upd H3 p2 (.lst (xs.set k v)) a = H3 a := fun a z => upd_ne fun e => hF a ((hM a).mpr e) z
    have q2 := op B3 (upd H3 p2 (.lst (xs.set k v))) (some (.ref p2)) (.ow (RL K (ds.set k x))) (fun a => a = p2) (Ex.refl _) (fun a u ha' => by
      rw [upd_ne (fun e => by rw [e, hb p2 ((hM p2).mpr rfl)] at ha'; cases ha')]
      exact S3'.bh a u ha') (fun a o ha' nm => by rw [upd_ne (fun e => nm ((hM a).mpr e))]; exact ha') (fun _ _ z => .inl z)
      ⟨_, rfl, ⟨p2, _, rfl, upd_same, dpa_set (dp_mono e3 _ _ hd) k ha, fun _ => Iff.rfl⟩, fun a z => by rw [z]; exact hb p2 ((hM p2).mpr rfl)⟩ (fun a z => .inl ((hM a).mpr z))
    rw [set_self ev] at q2
    exact L.nx B3 _ σ _ (e.trans e3) (fun a z => by rw [fr a z, f3 a z, f a z]) q2 q
end
end Dl

namespace Dl
open PySem PySem.Spec PyProof.Rows L2
open Evl (Ex)
section
variable {K : PySem.W.Frag} {δ : List Slot} {te ta tb tc : TE} {tt : TT} {t u : TS} {d : Dn}
/-! ### methods of lists at names -/
/-- an owned list's content is another one -/
theorem Sd.setL {B H B2 : Hp} {σ : L2.St} {F : Addr → Prop} {j : Nat} {ds ds' : List PyData} {p : Addr} {xs ys : List V} (S : Sd K B H σ δ F) (hj : δ[j]? = some (.ow (RL K ds))) (hv : σ[j]? = some (some (.ref p))) (hy : DpAll K B ys ds') : Sd K B (upd H p (.lst ys)) σ (δ.set j (.ow (RL K ds'))) F ∧ (∀ a, F a → upd H p (.lst ys) a = H a) ∧ ∃ xs, H p = some (.lst xs) ∧ DpAll K B xs ds := by
  obtain ⟨v, M, ev, ⟨p2, xs, rfl, hp, ha, hM⟩, hb, hF, op⟩ := S.opn hj
  rw [hv] at ev
  cases ev
  have q := op B (upd H p (.lst ys)) (some (.ref p)) (.ow (RL K ds')) (fun a => a = p) (Ex.refl _) (fun a u ha' => by
    rw [upd_ne (fun e => by rw [e, hb p ((hM p).mpr rfl)] at ha'; cases ha')]
    exact S.bh a u ha') (fun a o ha' nm => by rw [upd_ne (fun e => nm ((hM a).mpr e))]; exact ha') (fun _ _ z => .inl z)
    ⟨_, rfl, ⟨p, _, rfl, upd_same, hy, fun _ => Iff.rfl⟩, fun a z => by rw [z]; exact hb p ((hM p).mpr rfl)⟩ (fun a z => .inl ((hM a).mpr z))
  rw [set_self hv] at q
  exact ⟨q, fun a z => upd_ne fun e => hF a ((hM a).mpr e) z, xs, hp, ha⟩
theorem ev_append {j : Nat} {Φ : Slot → List Slot → Prop} (h : ∃ R, δ[j]? = some (.ow R) ∧ EvD K te δ fun x δ1 => ∃ ds, δ1[j]? = some (.ow (RL K ds)) ∧ ds.length < 100000 ∧ Φ (.pu .none) (δ1.set j (.ow (RL K (ds ++ [x]))))) (hR : ∀ R, δ[j]? = some (.ow R) → ∃ ds, R = RL K ds) : EvS K (tBM K "list" rAppend (tVar j) (tCons te tNil)) δ Φ := fun B H σ F Q S k => by
  obtain ⟨R, hR0, h⟩ := h
  obtain ⟨ds0, rfl⟩ := hR R hR0
  obtain ⟨v, M, ev, ⟨p, xs0, rfl, hp0, _⟩, _⟩ := S.opn hR0
  refine ⟨_, ev, .inl ⟨rfl, xs0, SqL.of hp0⟩, h B H σ F _ S fun w x B2 H2 δ1 e f S2 hd ⟨ds, hj, hl, q⟩ => ?_⟩
  obtain ⟨_, _, xs, hp, ha⟩ := S2.setL (B2 := B2) (xs := []) (ys := []) (ds' := []) hj ev .nil
  obtain ⟨S3, f3, _⟩ := S2.setL (B2 := B2) (xs := []) hj ev (dpa_append ha (dpa_one hd))
  refine ⟨p, xs, w, rfl, rfl, hp, Evl.sz_lt (by rw [dpa_len ha]; exact hl), ?_⟩
  exact k .non (fun _ => False) (.pu .none) B2 _ _ e (fun a z => (f3 a z).trans (f a z)) (S3.less fun a z => z.elim id False.elim) ⟨.non, fun _ z => z⟩ (fun _ z => z.elim) q
theorem ev_pop {j : Nat} {ds : List PyData} {x : PyData} {Φ : Slot → List Slot → Prop} (hj : δ[j]? = some (.ow (RL K ds))) (hx : ds[ds.length - 1]? = some x) (h : Φ (.pu x) (δ.set j (.ow (RL K ds.dropLast)))) : EvS K (tBM0 K "list" rPop (tVar j)) δ Φ := fun B H σ F Q S k => by
  obtain ⟨v, M, ev, ⟨p, xs, rfl, hp, ha, _⟩, _⟩ := S.opn hj
  obtain ⟨S3, f3, _⟩ := S.setL (B2 := B) (xs := []) hj ev (dpa_dropLast ha)
  obtain ⟨w, hw, hd⟩ := dpa_get ha hx
  exact ⟨_, ev, .inl ⟨rfl, xs, SqL.of hp⟩, p, xs, w, rfl, rfl, hp, by rw [dpa_len ha]; exact hw, k w (fun _ => False) (.pu x) B _ _ (Ex.refl _) f3 (S3.less fun a z => z.elim id False.elim) ⟨hd, fun _ z => z⟩ (fun _ z => z.elim) h⟩
theorem ev_popAt {j : Nat} {Φ : Slot → List Slot → Prop} {ds0 : List PyData} (h0 : δ[j]? = some (.ow (RL K ds0))) (h : EvS K te δ fun s δ1 => ∃ ds, δ1[j]? = some (.ow (RL K ds)) ∧ ∃ (i : Nat) (x : PyData), s = .pu (.int (i : Int)) ∧ ds[i]? = some x ∧ ds.length ≤ 100000 ∧ Φ (.pu x) (δ1.set j (.ow (RL K (ds.eraseIdx i))))) : EvS K (tBM K "list" rPopAt (tVar j) (tCons te tNil)) δ Φ := fun B H σ F Q S k => by
  obtain ⟨v, M, ev, ⟨p, xs0, rfl, hp0, _⟩, _⟩ := S.opn h0
  refine ⟨_, ev, .inl ⟨rfl, xs0, SqL.of hp0⟩, h B H σ F _ S fun w M2 s B2 H2 δ1 e f S2 wk n ⟨ds, hj, i, x, es, hx, hl, q⟩ => ?_⟩
  subst es
  have S2' : Sd K B2 H2 σ δ1 F := S2.less fun a z => .inl z
  obtain ⟨_, _, xs, hp, ha⟩ := S2'.setL (B2 := B2) (xs := []) (ys := []) (ds' := []) hj ev .nil
  obtain ⟨S3, f3, _⟩ := S2'.setL (B2 := B2) (xs := []) hj ev (dpa_erase i ha)
  obtain ⟨y, hy, hd⟩ := dpa_get ha hx
  have hil : i < xs.length := (List.getElem?_eq_some_iff.mp hy).1
  have hxl := dpa_len ha
  refine ⟨p, xs, (i : Int), i, y, rfl, by rw [dp_int_inv wk.1], hp, by omega, by omega, ?_, hy, ?_⟩
  · unfold seqIndex?
    have h1 : ¬ ((i : Int) < 0) := by omega
    simp [h1, hil]
  · exact k y (fun _ => False) (.pu x) B2 _ _ e (fun a z => (f3 a z).trans (f a z)) (S3.less fun a z => z.elim id False.elim) ⟨hd, fun _ z => z⟩ (fun _ z => z.elim) q
/-! ### comprehensions -/
def wipeD (δ : List Slot) : List Nat → List Slot
  | [] => δ
  | v :: vs => (wipeD δ vs).set v .non
theorem wipeD_len : ∀ {vs : List Nat}, (wipeD δ vs).length = δ.length
  | [] => rfl
  | v :: vs => by unfold wipeD; rw [List.length_set, wipeD_len]
theorem Sd.wiped {B H : Hp} {σ : L2.St} {F : Addr → Prop} (S : Sd K B H σ δ F) : ∀ (vs : List Nat), Sd K B H (wipe σ vs) (wipeD δ vs) F
  | [] => S
  | v :: vs => by
    unfold wipe wipeD
    have S1 := Sd.wiped S vs
    by_cases h : v < (wipeD δ vs).length
    · exact S1.put_non h
    · rw [List.set_eq_of_length_le (by rw [S1.len]; omega), List.set_eq_of_length_le (by omega)]
      exact S1
theorem wipe_out {i : Nat} {σ : L2.St} : ∀ {vs : List Nat}, i ∉ vs → (wipe σ vs)[i]? = σ[i]?
  | [], _ => rfl
  | v :: vs, h => by
    unfold wipe
    rw [List.getElem?_set_ne (fun z => h (by rw [← z]; exact List.mem_cons_self ..)), wipe_out fun z => h (List.mem_cons_of_mem _ z)]
theorem wipe_in {i : Nat} {σ : L2.St} : ∀ {vs : List Nat}, i ∈ vs → i < σ.length → (wipe σ vs)[i]? = some none
  | v :: vs, h, hl => by
    unfold wipe
    by_cases e : v = i
    · subst e
      rw [List.getElem?_set_self (by rw [wipe_length]; exact hl)]
    · rw [List.getElem?_set_ne e]
      exact wipe_in ((List.mem_cons.mp h).resolve_left fun z => e z.symm) hl
theorem wipe_ext {σ σ' : L2.St} {vs : List Nat} (hl : σ.length = σ'.length) (h : ∀ i, i ∉ vs → σ[i]? = σ'[i]?) : wipe σ vs = wipe σ' vs := by
  apply List.ext_getElem?
  intro i
  by_cases hi : i ∈ vs
  · by_cases hl2 : i < σ.length
    · rw [wipe_in hi hl2, wipe_in hi (by omega)]
    · rw [List.getElem?_eq_none (by rw [wipe_length]; omega), List.getElem?_eq_none (by rw [wipe_length]; omega)]
  · rw [wipe_out hi, wipe_out hi, h i hi]
theorem wipeD_out {i : Nat} : ∀ {vs : List Nat}, i ∉ vs → (wipeD δ vs)[i]? = δ[i]?
  | [], _ => rfl
  | v :: vs, h => by
    unfold wipeD
    rw [List.getElem?_set_ne (fun z => h (by rw [← z]; exact List.mem_cons_self ..)), wipeD_out fun z => h (List.mem_cons_of_mem _ z)]
/-- the block's names are what they were before -/
theorem Sd.unwipe {B H B2 H2 : Hp} {σ σ2 : L2.St} {δ2 : List Slot} {F F2 : Addr → Prop} {vs : List Nat} (S : Sd K B H σ δ F) (S2 : Sd K B2 H2 σ2 δ2 F2) (e : Ex B B2) (hσ : ∀ i, i ∉ vs → σ2[i]? = σ[i]?) (hδ : ∀ i, i ∉ vs → δ2[i]? = δ[i]?)
    (hv : ∀ i ∈ vs, ∀ s, δ[i]? = some s → s = .non ∨ ∃ d, s = .pu d) : Sd K B2 H2 σ δ F2 := by
  obtain ⟨ms, h1, h2, h3, h4⟩ := S.sl
  obtain ⟨ms2, k1, k2, k3, k4⟩ := S2.sl
  refine ⟨S2.bh, S.len, S2.fb, S2.fl, fun i a => i ∉ vs ∧ i < δ.length ∧ ms2 i a, fun i s hs => ?_, fun i j a q1 q2 => k2 i j a q1.2.2 q2.2.2, fun i a q => k3 i a q.2.2, fun i a q => q.2.1⟩
  by_cases hi : i ∈ vs
  · rcases hv i hi s hs with rfl | ⟨x, rfl⟩
    · exact fun a z => z.1 hi
    · obtain ⟨v, ev, hd, _⟩ := h1 i _ hs
      exact ⟨v, ev, dp_mono e _ _ hd, fun a z => z.1 hi⟩
  · have q := k1 i s (by rw [hδ i hi]; exact hs)
    rw [hσ i hi] at q
    have hil : i < δ.length := (List.getElem?_eq_some_iff.mp hs).1
    cases s with
    | non => exact fun a z => q a z.2.2
    | pu x => obtain ⟨v, ev, hd, hM⟩ := q; exact ⟨v, ev, hd, fun a z => hM a z.2.2⟩
    | ow R =>
      obtain ⟨v, ev, hP, hb⟩ := q
      have eM : (fun a => i ∉ vs ∧ i < δ.length ∧ ms2 i a) = ms2 i := funext fun a => propext ⟨fun z => z.2.2, fun z => ⟨hi, hil, z⟩⟩
      exact ⟨v, ev, by show R.P v B2 H2 (fun a => i ∉ vs ∧ i < δ.length ∧ ms2 i a); rw [eM]; exact hP, fun a z => hb a z.2.2⟩
    | al _ => exact q
/-- one turn of a comprehension: the list so far acc, behind it Pv -/
def TurnC (K : PySem.W.Frag) (g : TG) (tt : TT) (te : TE) (vs : List Nat) (δ : List Slot) (x : PyData) (acc : List PyData) (Pn : List PyData → Prop) : Prop :=
  ∃ as, TgS K g x as ∧ (∀ p ∈ as, p.1 < δ.length ∧ p.1 ∈ vs) ∧ EvT K tt (setD (wipeD δ vs) as) fun b δ1 => (∀ i, i ∉ vs → δ1[i]? = δ[i]?) ∧ if b = true then EvD K te δ1 fun y δ2 => (∀ i, i ∉ vs → δ2[i]? = δ[i]?) ∧ acc.length < 100000 ∧ Pn (acc ++ [y]) else Pn acc
theorem lc_core' {n : Nat} {item : Nat → PyData} {g : TG} {J : It} {vs : List Nat} {B H : Hp} {σ : L2.St} {F F0 : Addr → Prop} {Q : VK} (Pv : Nat → List PyData → Prop) (S : Sd K B H σ δ F) (hF0 : ∀ a, F0 a → F a) (hv : ∀ i ∈ vs, ∀ s, δ[i]? = some s → s = .non ∨ ∃ d, s = .pu d)
    (hgo : ∀ i, i < n → ∀ B' H', Ex B B' → (∀ a, F a → H' a = H a) → Sd K B' H' σ δ F → J.go i H' ∧ ∀ x H2, J.yld i H' x H2 → ∃ B2, Gr B' H' B2 H2 ∧ Dp K B2 x (item i))
    (hst : ∀ B' H', Ex B B' → (∀ a, F a → H' a = H a) → Sd K B' H' σ δ F → J.stop n H')
    (h0 : Pv 0 []) (hs : ∀ i acc, i < n → Pv i acc → TurnC K g tt te vs δ (item i) acc (Pv (i + 1)))
    (hd : ∀ acc v M B2 H2, Pv n acc → Ex B B2 → (∀ a, F a → H2 a = H a) → Sd K B2 H2 σ δ (fun a => F0 a ∨ M a) → (RL K acc).P v B2 H2 M → (∀ a, M a → ¬ F a) → Q v H2) :
    ∀ D, H D = none → ∃ W : Nat → Nat → Hp → Prop, (∃ m, W 0 m (upd H D (.lst []))) ∧ ∀ i m H, W i m H →
  (J.stop i H ∧ Q (.ref D) H) ∨ (J.go i H ∧ ∃ Nx : Hp → Prop, (∀ H', Nx H' → ∃ m', m' < m ∧ W (i + 1) m' H') ∧ ∀ x H', J.yld i H x H' → g x (wipe σ vs) H' fun σ2 H2 => wipe σ2 vs = wipe σ vs ∧ tt σ2 H2 fun b H3 =>
    if b = true then te σ2 H3 fun y H4 => ∃ acc, H4 D = some (.lst acc) ∧ acc.length < sizeLine ∧ Nx (upd H4 D (.lst (acc ++ [y]))) else Nx H3) := by
  intro D hD
  -- what holds between two turns
  let Inv := fun (i : Nat) (H' : Hp) => ∃ B' xs acc, Ex B B' ∧ (∀ a, F a → H' a = H a) ∧ Sd K B' H' σ δ (fun a => F a ∨ a = D) ∧ H' D = some (.lst xs) ∧ DpAll K B' xs acc ∧ Pv i acc
  have nF : ¬ F D := fun z => S.fl D z hD
  refine ⟨fun i m H' => m = n - i ∧ i ≤ n ∧ Inv i H', ⟨n, rfl, Nat.zero_le _, B, [], [], Ex.refl _, fun a z => upd_ne fun e => nF (by rw [← e]; exact z), sd_own S hD, upd_same, .nil, h0⟩, ?_⟩
  rintro i m H' ⟨rfl, hi, B', xs, acc, e, f, S', hx, ha, p⟩
  by_cases hlt : i < n
  · obtain ⟨g1, g2⟩ := hgo i hlt B' H' e f (S'.less fun a z => .inl z)
    refine .inr ⟨g1, Inv (i + 1), fun H2 q => ⟨n - (i + 1), by omega, rfl, hlt, q⟩, fun x H2 hy => ?_⟩
    obtain ⟨B2, gr, hxd⟩ := g2 x H2 hy
    obtain ⟨as, hg, hl, hb⟩ := hs i acc hlt p
    have S2 := S'.grow gr
    have f2 : ∀ a, F a → H2 a = H a := fun a z => (ex_eq gr.h (S'.fl a (.inl z))).trans (f a z)
    have hx2 : H2 D = some (.lst xs) := gr.h _ _ hx
    refine hg B2 H2 x (wipe σ vs) _ S2.bh hxd fun us hu => ?_
    have agree : ∀ j, j ∉ vs → (setV (wipe σ vs) (as.map (·.1)) us)[j]? = σ[j]? := fun j hj => by
      rw [setV_out (fun z => by
        obtain ⟨q, hq, e1⟩ := List.mem_map.mp z
        exact hj (e1 ▸ (hl q hq).2)), wipe_out hj]
    refine ⟨?_, ?_⟩
    · exact wipe_ext (by rw [setV_len, wipe_length]) agree
    · have S3 : Sd K B2 H2 (setV (wipe σ vs) (as.map (·.1)) us) (setD (wipeD δ vs) as) (fun a => F a ∨ a = D) := (S2.wiped vs).puts hu fun q hq => by rw [wipeD_len]; exact (hl q hq).1
      refine hb B2 H2 _ _ _ S3 fun b B3 H3 δ3 e3 f3 S4 ⟨ag, q⟩ => ?_
      have f3' : ∀ a, F a → H3 a = H a := fun a z => (f3 a (.inl z)).trans (f2 a z)
      cases b with
      | true =>
        rw [if_pos rfl] at q ⊢
        refine q B3 H3 _ _ _ S4 fun y yd B4 H4 δ4 e4 f4 S5 hyd ⟨ag4, hlen, pn⟩ => ?_
        have hx4 : H4 D = some (.lst xs) := by rw [f4 D (.inr rfl), f3 D (.inr rfl)]; exact hx2
        have eB : Ex B B4 := ((e.trans gr.b).trans e3).trans e4
        have eB' : Ex B' B4 := (gr.b.trans e3).trans e4
        refine ⟨xs, hx4, Evl.sz_lt (by rw [dpa_len ha]; exact hlen), B4, xs ++ [y], acc ++ [yd], eB, fun a z => ?_, ?_, upd_same, dpa_append (dpa_mono eB' _ _ ha) (dpa_one hyd), pn⟩
        · rw [upd_ne (fun z2 => nF (by rw [← z2]; exact z)), f4 a (.inl z), f3' a z]
        · have S6 : Sd K B4 H4 σ δ (fun a => F a ∨ a = D) := S'.unwipe (vs := vs) S5 eB' agree ag4 hv
          -- D is written
          obtain ⟨ms, h1, h2, h3, h4⟩ := S6.sl
          have hbD : B4 D = none := S6.fb D (.inr rfl)
          have ex : Ex B4 (upd H4 D (.lst (xs ++ [y]))) := fun a u ha' => by
            rw [upd_ne (fun z => by rw [z, hbD] at ha'; cases ha')]
            exact S6.bh a u ha'
          refine ⟨ex, S6.len, S6.fb, fun a z => ?_, ms, fun j s hs => ?_, h2, h3, h4⟩
          · by_cases e5 : a = D
            · rw [e5, upd_same]; exact fun z => nomatch z
            · rw [upd_ne e5]; exact S6.fl a z
          · have q := h1 j s hs
            cases s with
            | non => exact q
            | pu x => exact q
            | ow R =>
              obtain ⟨v, ev, hP, hb'⟩ := q
              exact ⟨v, ev, R.loc hP (Ex.refl _) fun a z => upd_ne fun e5 => h3 j a z (.inr e5), hb'⟩
            | al _ => exact q
      | false =>
        rw [if_neg Bool.false_ne_true] at q ⊢
        have eB' : Ex B' B3 := gr.b.trans e3
        exact ⟨B3, xs, acc, (e.trans gr.b).trans e3, f3', S'.unwipe (vs := vs) S4 eB' agree ag hv, by rw [f3 D (.inr rfl)]; exact hx2, dpa_mono eB' _ _ ha, q⟩
  · have e1 : i = n := by omega
    subst e1
    exact .inl ⟨hst B' H' e f (S'.less fun a z => .inl z), hd acc (.ref D) (fun a => a = D) B' H' p e f (S'.less fun a z => z.elim (fun z => .inl (hF0 a z)) .inr) ⟨D, xs, rfl, hx, ha, fun _ => Iff.rfl⟩ (fun a z z2 => nF (by rw [← z]; exact z2))⟩
/-- what a comprehension asks of the names it wipes -/
def Wip (δ : List Slot) (vs : List Nat) : Prop := ∀ i ∈ vs, ∀ s, δ[i]? = some s → s = .non ∨ ∃ d, s = .pu d
theorem ev_lcR1 {g : TG} {vs : List Nat} {Φ : Slot → List Slot → Prop} (h : EvS K ta δ fun s δ1 => ∃ k : Int, s = .pu (.int k) ∧ -(2 ^ 62) ≤ k ∧ k < 2 ^ 62 ∧ Wip δ1 vs ∧ ∃ Pv : Nat → List PyData → Prop, Pv 0 [] ∧ (∀ (i : Nat) acc, i < k.toNat → Pv i acc → TurnC K g tt te vs δ1 (.int (i : Int)) acc (Pv (i + 1))) ∧ ∀ acc, Pv k.toNat acc → Φ (.ow (RL K acc)) δ1) : EvS K (tLc (iRng1 (tCons ta tNil)) g tt te vs) δ Φ := fun B H σ F Q S kk =>
  h B H σ F _ S fun v M s B2 H2 δ1 e f S2 w n ⟨k, es, hk1, hk2, hw, Pv, h0, hs, hd⟩ => by
    subst es
    have S2' : Sd K B2 H2 σ δ1 F := S2.less fun a z => .inl z
    refine ⟨k, by rw [dp_int_inv w.1], hk1, hk2, ?_⟩
    refine lc_core' (n := k.toNat) (item := fun i => .int (i : Int)) Pv S2' (F0 := F) (fun a z => z) hw (fun i hi B' H' e' f' S' => ⟨hi, fun x H3 hy => ?_⟩) (fun B' H' e' f' S' => by exact Nat.le_refl _) h0 hs (fun acc v M B3 H3 p e3 f3 S3 hP hM => kk v M (.ow (RL K acc)) B3 H3 δ1 (e.trans e3) (fun a z => (f3 a z).trans (f a z)) S3 hP hM (hd acc p))
    obtain ⟨e1, e2⟩ := hy
    subst e1
    refine ⟨B', Gr.refl S'.bh, ?_⟩
    rw [e2, Int.zero_add]
    exact .int _
theorem ev_lcR2 {g : TG} {vs : List Nat} {Φ : Slot → List Slot → Prop} (h : EvS K ta δ fun s δ1 => EvS K tb δ1 fun s2 δ2 => ∃ lo k : Int, s = .pu (.int lo) ∧ s2 = .pu (.int k) ∧ (-(2 ^ 62) ≤ lo ∧ lo < 2 ^ 62 ∧ -(2 ^ 62) ≤ k ∧ k < 2 ^ 62) ∧ Wip δ2 vs ∧ ∃ Pv : Nat → List PyData → Prop, Pv 0 [] ∧ (∀ (i : Nat) acc, i < (k - lo).toNat → Pv i acc → TurnC K g tt te vs δ2 (.int (lo + (i : Int))) acc (Pv (i + 1))) ∧ ∀ acc, Pv (k - lo).toNat acc → Φ (.ow (RL K acc)) δ2) : EvS K (tLc (iRng2 (tCons ta (tCons tb tNil))) g tt te vs) δ Φ := fun B H σ F Q S kk =>
  h B H σ F _ S fun v1 M1 s1 B1 H1 δ1 e1 f1 S1 w1 n1 p1 => p1 B1 H1 σ _ _ S1 fun v M s B2 H2 δ2 e f S2 w n ⟨lo, k, es, es2, hk, hw, Pv, h0, hs, hd⟩ => by
    subst es es2
    have S2' : Sd K B2 H2 σ δ2 F := S2.less fun a z => .inl (.inl z)
    have f' : ∀ a, F a → H2 a = H a := fun a z => (f a (.inl z)).trans (f1 a z)
    refine ⟨lo, k, by rw [dp_int_inv w.1, dp_int_inv w1.1], hk, ?_⟩
    refine lc_core' (n := (k - lo).toNat) (item := fun i => .int (lo + (i : Int))) Pv S2' (F0 := F) (fun a z => z) hw (fun i hi B' H' e' f' S' => ⟨hi, fun x H3 hy => ?_⟩) (fun B' H' e' f' S' => by exact Nat.le_refl _) h0 hs (fun acc v M B3 H3 p e3 f3 S3 hP hM => kk v M (.ow (RL K acc)) B3 H3 δ2 ((e1.trans e).trans e3) (fun a z => (f3 a z).trans (f' a z)) S3 hP hM (hd acc p))
    obtain ⟨e1, e2⟩ := hy
    subst e1
    refine ⟨B', Gr.refl S'.bh, ?_⟩
    rw [e2]
    exact .int _
/-- over a list, also one at a name that goes on to be owned -/
theorem ev_lcL {g : TG} {vs : List Nat} {Φ : Slot → List Slot → Prop} (h : EvS K ta δ fun s δ1 => ∃ ds, den K δ1 s (.list ds) ∧ Wip δ1 vs ∧ ∃ Pv : Nat → List PyData → Prop, Pv 0 [] ∧ (∀ (i : Nat) y acc, ds[i]? = some y → Pv i acc → TurnC K g tt te vs δ1 y acc (Pv (i + 1))) ∧ ∀ acc, Pv ds.length acc → Φ (.ow (RL K acc)) δ1) : EvS K (tLc (iList K ta) g tt te vs) δ Φ := fun B H σ F Q S kk =>
  h B H σ F _ S fun v M s B2 H2 δ1 e f S2 w n ⟨ds, hden, hw, Pv, h0, hs, hd⟩ => by
    obtain ⟨p, xs0, rfl, hq0, ha0⟩ := (den_dr S2 w hden).lst S2.bh
    refine ⟨p, rfl, ⟨xs0, hq0⟩, ?_⟩
    have key : ∀ B' H', Ex B2 B' → (∀ a, (F a ∨ M a) → H' a = H2 a) → Sd K B' H' σ δ1 (fun a => F a ∨ M a) → ∃ xs, SqL K H' p xs ∧ DpAll K B' xs ds := fun B' H' e' f' S' => by
      have w' : VOk K σ δ1 B' H' (.ref p) M s := w.step e' fun a z => f' a (.inr z)
      obtain ⟨p', xs', e1, hq', ha'⟩ := (den_dr S' w' hden).lst S'.bh
      cases e1
      exact ⟨xs', hq', ha'⟩
    refine lc_core' (n := ds.length) (item := fun i => ds.getD i .none) Pv S2 (F0 := F) (fun a z => .inl z) hw (fun i hi B' H' e' f' S' => ?_) (fun B' H' e' f' S' => ?_) h0 (fun i acc hi q => hs i _ acc (by rw [List.getD_eq_getElem?_getD, List.getElem?_eq_getElem hi]; rfl) q) (fun acc v M B3 H3 p e3 f3 S3 hP hM => kk v M (.ow (RL K acc)) B3 H3 δ1 (e.trans e3) (fun a z => (f3 a (.inl z)).trans (f a z)) S3 hP (fun a z z2 => hM a z (.inl z2)) (hd acc p))
    · obtain ⟨xs, hq, ha⟩ := key B' H' e' f' S'
      obtain ⟨w2, hw2, hdw⟩ := dpa_get ha (List.getElem?_eq_getElem hi)
      refine ⟨⟨xs, w2, hq, hw2⟩, fun y H3 hy => ?_⟩
      obtain ⟨e1, e2⟩ := hy
      subst e1
      refine ⟨B', Gr.refl S'.bh, ?_⟩
      have e3 := (e2 xs hq).symm.trans hw2
      cases e3
      rw [List.getD_eq_getElem?_getD, List.getElem?_eq_getElem hi]
      exact hdw
    · obtain ⟨xs, hq, ha⟩ := key B' H' e' f' S'
      exact ⟨xs, hq, Nat.le_of_eq (dpa_len ha)⟩
theorem ev_lcT {g : TG} {vs : List Nat} {Φ : Slot → List Slot → Prop} (h : EvS K ta δ fun s δ1 => ∃ ds, s = .pu (.tuple ds) ∧ Wip δ1 vs ∧ ∃ Pv : Nat → List PyData → Prop, Pv 0 [] ∧ (∀ (i : Nat) y acc, ds[i]? = some y → Pv i acc → TurnC K g tt te vs δ1 y acc (Pv (i + 1))) ∧ ∀ acc, Pv ds.length acc → Φ (.ow (RL K acc)) δ1) : EvS K (tLc (iTup K ta) g tt te vs) δ Φ := fun B H σ F Q S kk =>
  h B H σ F _ S fun v M s B2 H2 δ1 e f S2 w n ⟨ds, es, hw, Pv, h0, hs, hd⟩ => by
    subst es
    have S2' : Sd K B2 H2 σ δ1 F := S2.less fun a z => .inl z
    have hd0 := w.1
    cases hd0 with
    | @tup p xs _ hq ha =>
      refine ⟨p, rfl, ⟨xs, Evl.ex_t S2.bh hq⟩, ?_⟩
      refine lc_core' (n := ds.length) (item := fun i => ds.getD i .none) Pv S2' (F0 := F) (fun a z => z) hw (fun i hi B' H' e' f' S' => ?_) (fun B' H' e' f' S' => ?_) h0 (fun i acc hi q => hs i _ acc (by rw [List.getD_eq_getElem?_getD, List.getElem?_eq_getElem hi]; rfl) q) (fun acc v M B3 H3 p e3 f3 S3 hP hM => kk v M (.ow (RL K acc)) B3 H3 δ1 (e.trans e3) (fun a z => (f3 a z).trans (f a z)) S3 hP hM (hd acc p))
      · have hq' : SqT K H' p xs := Evl.ex_t (e'.trans S'.bh) hq
        obtain ⟨w2, hw2, hdw⟩ := dpa_get ha (List.getElem?_eq_getElem hi)
        refine ⟨⟨xs, w2, hq', hw2⟩, fun y H3 hy => ?_⟩
        obtain ⟨e1, e2⟩ := hy
        subst e1
        refine ⟨B', Gr.refl S'.bh, ?_⟩
        have e3 := (e2 xs hq').symm.trans hw2
        cases e3
        rw [List.getD_eq_getElem?_getD, List.getElem?_eq_getElem hi]
        exact dp_mono e' _ _ hdw
      · exact ⟨xs, Evl.ex_t (e'.trans S'.bh) hq, Nat.le_of_eq (dpa_len ha)⟩
theorem et_yes {Φ : Bool → List Slot → Prop} (h : Φ true δ) : EvT K tYes δ Φ := fun B H σ F Q S k => k true B H δ (Ex.refl _) (fun _ _ => rfl) S h
end
end Dl

namespace Dl
open PySem PySem.Spec PyProof.Rows L2
open Evl (Ex)
/-! ### results of defs -/
inductive Rt where
  | d (z : PyData) | l (zs : List PyData)
def Rt.slot (K : PySem.W.Frag) : Rt → Slot
  | .d z => .pu z
  | .l zs => .ow (RL K zs)
def Rt.flat : Rt → Bool
  | .d z => flatD z
  | .l zs => zs.all flatD
def RtOk (K : PySem.W.Frag) (H B2 H2 : Hp) (v : V) : Rt → Prop
  | .d z => Dp K B2 v z
  | .l zs => ∃ p xs, v = .ref p ∧ H p = none ∧ B2 p = none ∧ H2 p = some (.lst xs) ∧ DpAll K B2 xs zs
/-- a def that changes nothing: data in, data or a new list out -/
def spP (K : PySem.W.Frag) (n : Nat) (pre : List PyData → Prop) (T : List PyData → Rt → Prop) : Sp := fun vs H Q _ =>
  ∃ B ds, Ex B H ∧ DpAll K B vs ds ∧ ds.length = n ∧ pre ds ∧ ∀ v B2 H2 r, Gr B H B2 H2 → RtOk K H B2 H2 v r → T ds r → Q v H2
theorem spP_len {K : PySem.W.Frag} {n : Nat} {pre : List PyData → Prop} {T : List PyData → Rt → Prop} {vs : List V} {H : Hp} {Q : VK} {E : XK} (h : spP K n pre T vs H Q E) : vs.length = n := by
  obtain ⟨B, ds, _, ha, hn, _⟩ := h
  rw [dpa_len ha, hn]
section
variable {K : PySem.W.Frag} {δ : List Slot} {te ta tb tc : TE} {tr : TA} {tt : TT} {t u : TS} {d : Dn}
theorem sd_fresh {B H B3 H3 : Hp} {σ : L2.St} {F : Addr → Prop} {p : Addr} (S : Sd K B H σ δ F) (g : Gr B H B3 H3) (hp : H p = none) (hb : B3 p = none) (h3 : H3 p ≠ none) : Sd K B3 H3 σ δ fun a => F a ∨ a = p := by
  have S2 := S.grow g
  obtain ⟨ms, h1, h2, h3', h4⟩ := S.sl
  refine ⟨S2.bh, S2.len, fun a ha => ?_, fun a ha => ?_, ms, fun i s hs => (h1 i s hs).grow g, h2, fun i a q z => ?_, h4⟩
  · rcases ha with z | rfl
    · exact S2.fb a z
    · exact hb
  · rcases ha with z | rfl
    · exact S2.fl a z
    · exact h3
  · rcases z with z | rfl
    · exact h3' i a q z
    · have hl := h4 i a q
      have q2 := h1 i δ[i] (List.getElem?_eq_getElem hl)
      cases e : δ[i] with
      | non => rw [e] at q2; exact q2 a q
      | pu d => rw [e] at q2; obtain ⟨_, _, _, z⟩ := q2; exact z a q
      | ow R => rw [e] at q2; obtain ⟨_, _, hP, _⟩ := q2; exact R.live hP a q hp
      | al j => rw [e] at q2; exact q2
theorem ev_call {n : Nat} {pre : List PyData → Prop} {T : List PyData → Rt → Prop} {E : XK} {Φ : Slot → List Slot → Prop} (h : EvDs K tr δ fun ds δ1 => ds.length = n ∧ pre ds ∧ ∀ r, T ds r → Φ (r.slot K) δ1) : EvS K (tCall (spP K n pre T) [] E tr) δ Φ := fun B H σ F Q S k =>
  h B H σ F _ S fun vs ds B2 H2 δ1 e f S2 ha ⟨hn, hp, q⟩ => by
    show spP K n pre T (vs ++ []) H2 Q E
    rw [List.append_nil]
    refine ⟨B2, ds, S2.bh, ha, hn, hp, fun v B3 H3 r g hr hT => ?_⟩
    have f3 : ∀ a, F a → H3 a = H a := fun a z => (ex_eq g.h (S2.fl a z)).trans (f a z)
    cases r with
    | d z => exact k v (fun _ => False) (.pu z) B3 H3 δ1 (e.trans g.b) f3 ((S2.grow g).less fun a z => z.elim id False.elim) ⟨hr, fun _ z => z⟩ (fun _ z => z.elim) (q _ hT)
    | l zs =>
      obtain ⟨p, xs, rfl, hp, hb, h3, hx⟩ := hr
      exact k (.ref p) (fun a => a = p) (.ow (RL K zs)) B3 H3 δ1 (e.trans g.b) f3 (sd_fresh S2 g hp hb (by rw [h3]; exact fun z => nomatch z)) ⟨p, xs, rfl, h3, hx, fun _ => Iff.rfl⟩ (fun a z z2 => S2.fl a z2 (by rw [z]; exact hp)) (q _ hT)
/-! arguments that may be lists at names; flat results -/
theorem ea_nil {Φ : List Slot → List Slot → Prop} (h : Φ [] δ) : EvA K tNil δ Φ := fun B H σ F Q S k => k [] (fun _ => False) [] B H δ (Ex.refl _) (fun _ _ => rfl) (S.less fun a z => z.elim id False.elim) .nil (fun _ z => z.elim) h
theorem ea_cons {Φ : List Slot → List Slot → Prop} (h : EvS K ta δ fun s δ1 => EvA K tr δ1 fun ss δ2 => Φ (s :: ss) δ2) : EvA K (tCons ta tr) δ Φ := fun B H σ F Q S k =>
  h B H σ F _ S fun v M s B1 H1 δ1 e1 f1 S1 w1 n1 p1 => p1 B1 H1 σ _ _ S1 fun vs M2 ss B2 H2 δ2 e2 f2 S2 w2 n2 p2 =>
    k (v :: vs) (fun a => M a ∨ M2 a) (s :: ss) B2 H2 δ2 (e1.trans e2) (fun a z => (f2 a (.inl z)).trans (f1 a z)) (S2.less fun a z => z.elim (fun z => .inl (.inl z)) fun z => z.elim (fun z => .inl (.inr z)) .inr) (.cons (w1.step e2 fun a z => f2 a (.inr z)) (fun a z z2 => n2 a z2 (.inr z)) w2) (fun a z f => z.elim (fun z => n1 a z f) fun z => n2 a z (.inl f)) p2
/-- the arguments denote data now -/
inductive DenA (K : PySem.W.Frag) (δ : List Slot) : List Slot → List PyData → Prop
  | nil : DenA K δ [] []
  | cons {s : Slot} {d : PyData} {ss : List Slot} {ds : List PyData} : den K δ s d → DenA K δ ss ds → DenA K δ (s :: ss) (d :: ds)
theorem aok_dp {B H : Hp} {σ : L2.St} {ss : List Slot} {F' : Addr → Prop} {vs : List V} {M : Addr → Prop} (S : Sd K B H σ δ F') (h : AOk K σ δ B H vs ss M) : ∀ {ds : List PyData}, DenA K δ ss ds → DpAll K H vs ds := by
  induction h with
  | nil => intro ds hd; cases hd; exact .nil
  | cons h1 h2 h3 ih =>
    intro ds hd
    cases hd with
    | cons a b => exact .cons ((den_dr S h1 a).dp S.bh) (ih b)
theorem ev_callF {n : Nat} {pre : List PyData → Prop} {T : List PyData → Rt → Prop} {E : XK} {Φ : Slot → List Slot → Prop} (h : EvA K tr δ fun ss δ1 => ∃ ds, DenA K δ1 ss ds ∧ ds.length = n ∧ pre ds ∧ ∀ r, T ds r → r.flat = true ∧ Φ (r.slot K) δ1) : EvS K (tCall (spP K n pre T) [] E tr) δ Φ := fun B H σ F Q S k =>
  h B H σ F _ S fun vs M ss B2 H2 δ1 e f S2' w nn ⟨ds, hds, hn, hp, q⟩ => by
    show spP K n pre T (vs ++ []) H2 Q E
    rw [List.append_nil]
    have ha := aok_dp S2' w hds
    have S2 : Sd K B2 H2 σ δ1 F := S2'.less fun a z => .inl z
    refine ⟨H2, ds, Ex.refl _, ha, hn, hp, fun v B3 H3 r g' hr hT => ?_⟩
    have g : Gr B2 H2 B2 H3 := ⟨Ex.refl _, g'.h, S2.bh.trans g'.h, fun _ _ z => .inl z⟩
    have f3 : ∀ a, F a → H3 a = H a := fun a z => (ex_eq g.h (S2.fl a z)).trans (f a z)
    obtain ⟨fl, qq⟩ := q r hT
    cases r with
    | d z => exact k v (fun _ => False) (.pu z) B2 H3 δ1 e f3 ((S2.grow g).less fun a z => z.elim id False.elim) ⟨dp_any fl hr, fun _ z => z⟩ (fun _ z => z.elim) qq
    | l zs =>
      obtain ⟨p, xs, rfl, hp, hb, h3, hx⟩ := hr
      exact k (.ref p) (fun a => a = p) (.ow (RL K zs)) B2 H3 δ1 e f3 (sd_fresh S2 g hp (exnone S2.bh hp) (by rw [h3]; exact fun z => nomatch z)) ⟨p, xs, rfl, h3, dpa_any fl hx, fun _ => Iff.rfl⟩ (fun a z z2 => S2.fl a z2 (by rw [z]; exact hp)) qq
/-! ### a def's body keeps its promise -/
def RtS (K : PySem.W.Frag) (T : Rt → Prop) (s : Slot) (δ : List Slot) : Prop :=
  (∃ z, s = .pu z ∧ T (.d z)) ∨ ∃ zs, (s = .ow (RL K zs) ∨ ∃ i, s = .al i ∧ δ[i]? = some (.ow (RL K zs))) ∧ T (.l zs)
theorem rt_d {T : Rt → Prop} {z : PyData} (h : T (.d z)) : RtS K T (.pu z) δ := .inl ⟨z, rfl, h⟩
theorem rt_l {T : Rt → Prop} {zs : List PyData} (h : T (.l zs)) : RtS K T (.ow (RL K zs)) δ := .inr ⟨zs, .inl rfl, h⟩
theorem rt_al {T : Rt → Prop} {i : Nat} {zs : List PyData} (hi : δ[i]? = some (.ow (RL K zs))) (h : T (.l zs)) : RtS K T (.al i) δ := .inr ⟨zs, .inr ⟨i, rfl, hi⟩, h⟩
theorem nn_of {H : Hp} {a : Addr} {o : HO} (h : H a = some o) : H a ≠ none := by rw [h]; exact fun z => nomatch z
def FrB (B H : Hp) (a : Addr) : Prop := H a ≠ none ∧ B a = none
theorem sd_start {B H : Hp} {vs : List V} {ds : List PyData} {N : List Str} (e : Ex B H) (ha : DpAll K B vs ds) : Sd K B H (L2.start N vs) (ds.map Slot.pu ++ List.replicate (N.length - ds.length) Slot.non) (FrB B H) := by
  have hl := dpa_len ha
  refine ⟨e, by unfold L2.start; simp [hl], fun a z => z.2, fun a z => z.1, fun _ _ => False, fun i s hs => ?_, fun _ _ _ z => z.elim, fun _ _ z => z.elim, fun _ _ z => z.elim⟩
  unfold L2.start
  by_cases h : i < ds.length
  · rw [List.getElem?_append_left (by rw [List.length_map]; exact h), List.getElem?_map] at hs
    cases hd : ds[i]? with
    | none => rw [hd] at hs; cases hs
    | some x =>
      rw [hd] at hs
      cases hs
      obtain ⟨v, hv, hx⟩ := dpa_get ha hd
      rw [List.getElem?_append_left (by rw [List.length_map, hl]; exact h), List.getElem?_map, hv]
      exact ⟨v, rfl, hx, fun _ z => z⟩
  · rw [List.getElem?_append_right (by rw [List.length_map]; omega)] at hs
    have e1 := List.mem_of_getElem? hs
    rw [List.eq_of_mem_replicate e1]
    exact fun _ z => z
theorem gr_end {B H B2 H2 : Hp} {σ : L2.St} (eB : Ex B H) (e : Ex B B2) (f : ∀ a, FrB B H a → H2 a = H a) (S : Sd K B2 H2 σ δ (FrB B H)) : Gr B H B2 H2 := by
  refine ⟨e, fun a o h => ?_, S.bh, fun a o h => ?_⟩
  · cases hb : B a with
    | none => rw [f a ⟨nn_of h, hb⟩]; exact h
    | some o' =>
      have e1 := eB a o' hb
      rw [h] at e1
      cases e1
      exact S.bh a o (e a o hb)
  · cases hb : B a with
    | some o' => exact .inl (by rw [e a o' hb] at h; exact h)
    | none =>
      refine .inr ?_
      cases hh : H a with
      | none => rfl
      | some u => rw [S.fb a ⟨nn_of hh, hb⟩] at h; cases h
theorem body_P {n : Nat} {pre : List PyData → Prop} {T : List PyData → Rt → Prop} {N : List Str} {vs : List V} {H : Hp} {Q : VK} {E : XK} (h : spP K n pre T vs H Q E)
    (hx : ∀ ds, ds.length = n → pre ds → ExS K t { nx := fun _ => T ds (.d .none), rt := RtS K (T ds) } (ds.map Slot.pu ++ List.replicate (N.length - ds.length) Slot.non)) : t { nx := fun _ H' => Q .non H', rt := Q } (L2.start N vs) H := by
  obtain ⟨B, ds, eB, ha, hn, hp, q⟩ := h
  refine hx ds hn hp B H (L2.start N vs) (FrB B H) _ (sd_start eB ha) ⟨fun B2 H2 σ2 δ2 e f S p => q .non B2 H2 (.d .none) (gr_end eB e f S) .non p, fun _ _ _ _ _ _ _ z => z.elim, fun _ _ _ _ _ _ _ z => z.elim, fun v M s B2 H2 σ2 δ2 e f S w n p => ?_, fun _ _ _ _ _ _ _ _ _ _ _ z => False.elim z⟩
  have S' : Sd K B2 H2 σ2 δ2 (FrB B H) := S.less fun a z => .inl z
  have g := gr_end eB e f S'
  rcases p with ⟨z, rfl, hT⟩ | ⟨zs, hs, hT⟩
  · exact q v B2 H2 (.d z) g w.1 hT
  · rcases hs with rfl | ⟨i, rfl, hi⟩
    · obtain ⟨p, xs, rfl, h3, hx, hM⟩ := w
      have hb : B2 p = none := S.fb p (.inr ((hM p).mpr rfl))
      refine q _ B2 H2 (.l zs) g ⟨p, xs, rfl, ?_, hb, h3, hx⟩ hT
      cases hh : H p with
      | none => rfl
      | some u => exact absurd ⟨nn_of hh, exnone e hb⟩ (n p ((hM p).mpr rfl))
    · obtain ⟨v', M', ev, ⟨p, xs, rfl, h3, hx, hM⟩, hb, hF, _⟩ := S'.opn hi
      rw [w.1] at ev
      cases ev
      have hb' : B2 p = none := hb p ((hM p).mpr rfl)
      refine q _ B2 H2 (.l zs) g ⟨p, xs, rfl, ?_, hb', h3, hx⟩ hT
      cases hh : H p with
      | none => rfl
      | some u => exact absurd ⟨nn_of hh, exnone e hb'⟩ (hF p ((hM p).mpr rfl))
end
/-! ### a def by its name -/
structure Cal (P : Program) (w : World) (K : PySem.W.Frag) (mg : Str → Option Value) (base : Heap) (k : Nat) (x : Str) (sp : Sp) : Prop where
  ex : ∃ (f : Addr) (fd : FuncData) (ps : List Str), FnOk P w K mg base CX0 k f fd ps sp ∧ mg x = some (.ref f) ∧ PySem.W.keepIn K (.ref f) = true ∧ Binds K fd ps []
theorem pe_c {X : Cx} {k j : Nat} {x : Str} {sp : Sp} {p pos : Pos} {e : Expr} {es : List Expr} {t : TA} (c : Cal X.prog X.w X.K X.mg X.base k x sp) (hr : Room j X.A) (ha : PA X (e :: es) t) (hk : k ≤ j := by decide) (hg : Gl X x := by rfl)
    (hdb : (x == ("__debug__" : Str)) = false := by decide) (he : starEach (e :: es) X.env = (false, eval e X.env) :: starEach es X.env := by rfl) (hpl : (backTo pos (starEach es X.env)).any (·.1) = false := by rfl) :
    PE X (.Call (.Name x p) (e :: es) [] pos) (tCall sp [] E0 t) := by
  obtain ⟨f, fd, ps, F, hm, kp, b⟩ := c.ex
  exact pe_call F (hr.mono hk) hg hm kp b .nil pass0 ha hdb he hpl
theorem cal_P {P : Program} {w : World} {K : PySem.W.Frag} {mg : Str → Option Value} {base : Heap} {x : Str} {st : Stmt} {f : Addr} {fd : FuncData} {N ps : List Str} {k n : Nat} {pre : List PyData → Prop} {T : List PyData → Rt → Prop}
    (F : Fun K x x st f fd) (hm : mg x = some (.ref f)) (hb : Binds K fd ps []) (S : FnScope N ps (defScope st)) (hn : ps.length = n := by rfl)
    (hbody : ∀ (cdv : Value) (A : Around) (outer : List Env) (s : Shared) (H : Hp) (E : XK), Room k (A.deeper (envOfC x (defScope st) s.heap.objs.size f cdv)) →
      ∃ t, PSs (cxOf CX0 P w K mg base N x (defScope st) f cdv A outer s H E).nox (defBody st) t ∧ ∀ ds, ds.length = n → pre ds → ExS K t { nx := fun _ => T ds (.d .none), rt := RtS K (T ds) } (ds.map Slot.pu ++ List.replicate (N.length - ds.length) Slot.non)) : Cal P w K mg base (k + 1) x (spP K n pre T) := by
  refine ⟨f, fd, ps, F.ok S (fun vs H Q E h => by rw [spP_len h, hn]) (fun cdv A outer s H vs Q E hr h => ?_), hm, F.kp, hb⟩
  obtain ⟨t, ht, hx⟩ := hbody cdv A outer s H E hr
  exact ⟨t, ht, body_P h hx⟩
end Dl

namespace Dl
open PySem PySem.Spec PyProof.Rows L2
open Evl (Ex)
section
variable {K : PySem.W.Frag} {δ : List Slot} {te ta tb tc : TE} {tr : TA} {tt : TT} {t u : TS} {d : Dn} {Φ : Slot → List Slot → Prop}
theorem dr_seq {B H : Hp} {v : V} {ds : List PyData} (e : Ex B H) (h : Dr K B H v (.list ds) ∨ Dr K B H v (.tuple ds)) : ∃ p xs, v = .ref p ∧ (SqL K H p xs ∨ SqT K H p xs) ∧ DpAll K B xs ds := by
  rcases h with h | h
  · obtain ⟨p, xs, rfl, a, b⟩ := h.lst e
    exact ⟨p, xs, rfl, .inl a, b⟩
  · obtain ⟨p, xs, rfl, a, b⟩ := h.tup e
    exact ⟨p, xs, rfl, .inr a, b⟩
/-- a call of a built-in with one argument, as an operation -/
theorem ev_cb1P {r : List V → Hp → VK → Prop} (h : EvS K ta δ fun s δ1 => ∃ x z, den K δ1 s x ∧ UnP K (fun v => r [v]) x z ∧ Φ (.pu z) δ1) : EvS K (tCB r (tCons ta tNil)) δ Φ := ev_unP (r := fun v => r [v]) h
theorem ev_cb1L {r : List V → Hp → VK → Prop} (h : EvS K ta δ fun s δ1 => ∃ x zs, den K δ1 s x ∧ UnL K (fun v => r [v]) x zs ∧ Φ (.ow (RL K zs)) δ1) : EvS K (tCB r (tCons ta tNil)) δ Φ := ev_unL (r := fun v => r [v]) h
/-- .. whose result is one of several -/
theorem ev_unA {r : R1} (h : EvS K ta δ fun s1 δ1 => ∃ x, den K δ1 s1 x ∧ ∃ T : PyData → Prop, (∀ (B H : Hp) (u : V) (Q : VK), Ex B H → Dr K B H u x → (∀ z, T z → flatD z = true → Q (valD z) H) → r u H Q) ∧ ∀ z, T z → Φ (.pu z) δ1) : EvS K (fun σ H Q => ta σ H fun x H1 => r x H1 Q) δ Φ := fun B H σ F Q S k =>
  h B H σ F _ S fun v2 M2 s2 B2 H2 δ2 e2 f2 S2 w2 n2 ⟨x, hd, T, hO, q⟩ => hO B2 H2 v2 Q S2.bh (den_dr S2 w2 hd) fun z hT fz =>
    k _ (fun _ => False) (.pu z) B2 H2 δ2 e2 f2 (S2.less fun a z => z.elim .inl False.elim) ⟨dp_flat fz, fun _ z => z⟩ (fun _ z => z.elim) (q z hT)
/-- .. a new list, one of several -/
theorem ev_unAL {r : R1} (h : EvS K ta δ fun s1 δ1 => ∃ x, den K δ1 s1 x ∧ ∃ T : List PyData → Prop, (∀ (B H : Hp) (u : V) (Q : VK), Ex B H → Dr K B H u x → (∀ zs p xs, T zs → H p = none → DpAll K B xs zs → Q (.ref p) (upd H p (.lst xs))) → r u H Q) ∧ ∀ zs, T zs → Φ (.ow (RL K zs)) δ1) : EvS K (fun σ H Q => ta σ H fun x H1 => r x H1 Q) δ Φ := fun B H σ F Q S k =>
  h B H σ F _ S fun v2 M2 s2 B2 H2 δ2 e2 f2 S2 w2 n2 ⟨x, hd, T, hO, q⟩ => by
    have SF : Sd K B2 H2 σ δ2 F := S2.less fun a ha => .inl ha
    refine hO B2 H2 v2 Q S2.bh (den_dr S2 w2 hd) fun zs p xs hT hp hz => ?_
    refine k (.ref p) (fun a => a = p) (.ow (RL K zs)) B2 _ δ2 e2 (fun a ha => ?_) (sd_own SF hp) (rl_new hz) (fun a ha f => ?_) (q zs hT)
    · rw [upd_ne (fun z => SF.fl a ha (by rw [z]; exact hp)), f2 a ha]
    · rw [ha] at f; exact SF.fl p f hp
theorem den2 {B H : Hp} {v : V} {s : Slot} {ds : List PyData} (h : den K δ s (.list ds) ∨ den K δ s (.tuple ds)) : ∃ x, den K δ s x ∧ ∀ B H v, Dr K B H v x → Dr K B H v (.list ds) ∨ Dr K B H v (.tuple ds) := by
  rcases h with h | h
  · exact ⟨_, h, fun _ _ _ z => .inl z⟩
  · exact ⟨_, h, fun _ _ _ z => .inr z⟩
theorem ev_len (h : EvS K ta δ fun s δ1 => ∃ ds, (den K δ1 s (.list ds) ∨ den K δ1 s (.tuple ds)) ∧ Φ (.pu (.int (ds.length : Int))) δ1) : EvS K (tCB (fun xs H Q => ∃ p ys, xs = [.ref p] ∧ (SqL K H p ys ∨ SqT K H p ys) ∧ Q (.int ys.length) H) (tCons ta tNil)) δ Φ :=
  ev_cb1P (h.imp fun s δ1 ⟨ds, h1, q⟩ => by
    obtain ⟨x, hx, k⟩ := den2 (B := fun _ => none) (H := fun _ => none) (v := .non) h1
    refine ⟨x, .int (ds.length : Int), hx, unP_flat rfl fun B H u Q e dd kk => ?_, q⟩
    obtain ⟨p, xs, rfl, hs, ha⟩ := dr_seq e (k B H u dd)
    refine ⟨p, xs, rfl, hs, ?_⟩
    rw [dpa_len ha]
    exact kk)
theorem ev_lenS (h : EvS K ta δ fun s δ1 => ∃ z : Str, s = .pu (.str z) ∧ z.length ≤ sizeLine ∧ Φ (.pu (.int (z.length : Int))) δ1) : EvS K (tCB (fun xs H Q => ∃ z, xs = [.str z] ∧ z.length ≤ sizeLine ∧ Q (.int z.length) H) (tCons ta tNil)) δ Φ :=
  ev_cb1P (h.imp fun s δ1 ⟨z, h1, hl, q⟩ => ⟨.str z, .int (z.length : Int), .inl h1, unP_flat rfl fun B H u Q e dd kk => ⟨z, by rw [dr_str dd], hl, kk⟩, q⟩)
theorem ev_list (h : EvS K ta δ fun s δ1 => ∃ ds, (den K δ1 s (.list ds) ∨ den K δ1 s (.tuple ds)) ∧ Φ (.ow (RL K ds)) δ1) : EvS K (tCB (fun xs H Q => ∃ p ys, xs = [.ref p] ∧ (SqL K H p ys ∨ SqT K H p ys) ∧ ∀ l, H l = none → Q (.ref l) (upd H l (.lst ys))) (tCons ta tNil)) δ Φ :=
  ev_cb1L (h.imp fun s δ1 ⟨ds, h1, q⟩ => by
    obtain ⟨x, hx, k⟩ := den2 (B := fun _ => none) (H := fun _ => none) (v := .non) h1
    refine ⟨x, ds, hx, fun B H u Q e dd kk => ?_, q⟩
    obtain ⟨p, xs, rfl, hs, ha⟩ := dr_seq e (k B H u dd)
    exact ⟨p, xs, rfl, hs, fun l hl => kk l xs hl ha⟩)
theorem ev_tuple (h : EvS K ta δ fun s δ1 => ∃ ds, (den K δ1 s (.list ds) ∨ s = .pu (.tuple ds)) ∧ ds.length ≤ 100000 ∧ Φ (.pu (.tuple ds)) δ1) : EvS K (tThen ta (kTup K)) δ Φ :=
  ev_unP (r := kTup K) (h.imp fun s δ1 ⟨ds, h1, hz, q⟩ => by
    rcases h1 with h1 | h1
    · refine ⟨.list ds, .tuple ds, h1, fun B H u Q e dd kk => ?_, q⟩
      obtain ⟨p, xs, rfl, hs, ha⟩ := dd.lst e
      refine .inl ⟨p, xs, rfl, hs, fun l hl => ?_⟩
      have g := Gr.new (o := .tup xs) e hl
      exact kk _ _ _ g (.tup (SqT.of upd_same) (dpa_mono g.b _ _ ha))
    · refine ⟨.tuple ds, .tuple ds, .inl h1, fun B H u Q e dd kk => ?_, q⟩
      have dd' := dd
      obtain ⟨p, xs, rfl, hs, ha⟩ := dd.tup e
      rcases dd' with dd' | ⟨_, _, _, _, z, _⟩
      · exact .inr ⟨p, xs, rfl, hs, kk _ B H (Gr.refl e) dd'⟩
      · cases z)
theorem lst_ints {B H : Hp} {v : V} {ns : List Int} (e : Ex B H) (h : Dr K B H v (.list (ns.map PyData.int))) : ∃ p, v = .ref p ∧ SqL K H p (ns.map V.int) := by
  obtain ⟨p, xs, rfl, hs, ha⟩ := h.lst e
  rw [dpa_ints_inv ha] at hs
  exact ⟨p, rfl, hs⟩
theorem ev_sorted (h : EvS K ta δ fun s δ1 => ∃ ns : List Int, den K δ1 s (.list (ns.map PyData.int)) ∧ ∀ ns' : List Int, ns'.Perm ns → ns'.Pairwise (· ≤ ·) → Φ (.ow (RL K (ns'.map PyData.int))) δ1) : EvS K (tCB (rSortedI K) (tCons ta tNil)) δ Φ :=
  ev_unAL (r := fun v => rSortedI K [v]) (h.imp fun s δ1 ⟨ns, h1, q⟩ => ⟨_, h1, fun zs => ∃ ns' : List Int, zs = ns'.map PyData.int ∧ ns'.Perm ns ∧ ns'.Pairwise (· ≤ ·), fun B H u Q e dd kk => by
    obtain ⟨p, rfl, hs⟩ := lst_ints e dd
    exact ⟨p, ns, rfl, hs, fun ns' l h2 h3 hl => kk _ l _ ⟨ns', rfl, h2, h3⟩ hl (dpa_ints ns')⟩, fun zs ⟨ns', e, h2, h3⟩ => by rw [e]; exact q ns' h2 h3⟩)
theorem ev_max (h : EvS K ta δ fun s δ1 => ∃ ns : List Int, den K δ1 s (.list (ns.map PyData.int)) ∧ 0 < ns.length ∧ ∀ m, m ∈ ns → (∀ y, y ∈ ns → y ≤ m) → Φ (.pu (.int m)) δ1) : EvS K (tCB (rMax K) (tCons ta tNil)) δ Φ :=
  ev_unA (r := fun v => rMax K [v]) (h.imp fun s δ1 ⟨ns, h1, h0, q⟩ => ⟨_, h1, fun z => ∃ m, z = .int m ∧ m ∈ ns ∧ ∀ y, y ∈ ns → y ≤ m, fun B H u Q e dd kk => by
    obtain ⟨p, rfl, hs⟩ := lst_ints e dd
    exact ⟨p, ns, rfl, hs, h0, fun m h2 h3 => kk (.int m) ⟨m, rfl, h2, h3⟩ rfl⟩, fun z ⟨m, e, h2, h3⟩ => by rw [e]; exact q m h2 h3⟩)
theorem ev_min (h : EvS K ta δ fun s δ1 => ∃ ns : List Int, den K δ1 s (.list (ns.map PyData.int)) ∧ 0 < ns.length ∧ ∀ m, m ∈ ns → (∀ y, y ∈ ns → m ≤ y) → Φ (.pu (.int m)) δ1) : EvS K (tCB (rMin K) (tCons ta tNil)) δ Φ :=
  ev_unA (r := fun v => rMin K [v]) (h.imp fun s δ1 ⟨ns, h1, h0, q⟩ => ⟨_, h1, fun z => ∃ m, z = .int m ∧ m ∈ ns ∧ ∀ y, y ∈ ns → m ≤ y, fun B H u Q e dd kk => by
    obtain ⟨p, rfl, hs⟩ := lst_ints e dd
    exact ⟨p, ns, rfl, hs, h0, fun m h2 h3 => kk (.int m) ⟨m, rfl, h2, h3⟩ rfl⟩, fun z ⟨m, e, h2, h3⟩ => by rw [e]; exact q m h2 h3⟩)
theorem ev_sum (h : EvS K ta δ fun s δ1 => ∃ ns : List Int, den K δ1 s (.list (ns.map PyData.int)) ∧ Φ (.pu (.int ns.sum)) δ1) : EvS K (tCB (rSum K) (tCons ta tNil)) δ Φ :=
  ev_cb1P (h.imp fun s δ1 ⟨ns, h1, q⟩ => ⟨_, .int ns.sum, h1, unP_flat rfl fun B H u Q e dd kk => by
    obtain ⟨p, rfl, hs⟩ := lst_ints e dd
    exact ⟨p, ns, rfl, hs, kk⟩, q⟩)
theorem dpa_bl_inv {H : Hp} : ∀ {ns : List Bool} {vs : List V}, DpAll K H vs (ns.map PyData.bool) → vs = ns.map V.bl
  | [], _, h => by cases h; rfl
  | n :: r, _, h => by
    cases h with
    | cons h1 h2 =>
      cases h1
      rw [dpa_bl_inv h2]
      rfl
theorem ev_all (h : EvS K ta δ fun s δ1 => ∃ bs : List Bool, den K δ1 s (.list (bs.map PyData.bool)) ∧ Φ (.pu (.bool (bs.all id))) δ1) : EvS K (tCB (rAll K) (tCons ta tNil)) δ Φ :=
  ev_cb1P (h.imp fun s δ1 ⟨ns, h1, q⟩ => ⟨_, .bool (ns.all id), h1, unP_flat rfl fun B H u Q e dd kk => by
    obtain ⟨p, xs, rfl, hs, ha⟩ := dd.lst e
    rw [dpa_bl_inv ha] at hs
    exact ⟨p, ns, rfl, hs, kk⟩, q⟩)
theorem ev_abs (h : EvS K ta δ fun s δ1 => ∃ i : Int, s = .pu (.int i) ∧ Φ (.pu (.int (if i < 0 then -i else i))) δ1) : EvS K (tCB (fun xs H Q => ∃ i, xs = [.int i] ∧ Q (.int (if i < 0 then -i else i)) H) (tCons ta tNil)) δ Φ :=
  ev_cb1P (h.imp fun s δ1 ⟨i, h1, q⟩ => ⟨_, .int (if i < 0 then -i else i), .inl h1, unP_flat rfl fun B H u Q e dd kk => ⟨i, by rw [dr_int dd], kk⟩, q⟩)
theorem ev_strI (h : EvS K ta δ fun s δ1 => ∃ i : Int, s = .pu (.int i) ∧ i.natAbs.log2 < 1920 ∧ Φ (.pu (.str (Str.ofString (toString i)))) δ1) : EvS K (tCB (fun xs H Q => ∃ i, xs = [.int i] ∧ i.natAbs.log2 < 1920 ∧ Q (.str (Str.ofString (toString i))) H) (tCons ta tNil)) δ Φ :=
  ev_cb1P (h.imp fun s δ1 ⟨i, h1, hl, q⟩ => ⟨_, .str (Str.ofString (toString i)), .inl h1, unP_flat rfl fun B H u Q e dd kk => ⟨i, by rw [dr_int dd], hl, kk⟩, q⟩)
theorem ev_intB (h : EvS K ta δ fun s δ1 => ∃ b : Bool, s = .pu (.bool b) ∧ Φ (.pu (.int (if b then 1 else 0))) δ1) : EvS K (tCB (fun xs H Q => (∃ i, xs = [.int i] ∧ Q (.int i) H) ∨ ∃ k, xs = [.bl k] ∧ Q (.int (b2i k)) H) (tCons ta tNil)) δ Φ :=
  ev_cb1P (h.imp fun s δ1 ⟨b, h1, q⟩ => ⟨_, .int (if b then 1 else 0), .inl h1, unP_flat rfl fun B H u Q e dd kk => .inr ⟨b, by rw [dr_bl dd], by cases b <;> exact kk⟩, q⟩)
/-- two ints -/
theorem ev_cb2I {g : Int → Int → Int} (h : EvS K ta δ fun s1 δ1 => EvS K tb δ1 fun s2 δ2 => ∃ i j, s1 = .pu (.int i) ∧ s2 = .pu (.int j) ∧ Φ (.pu (.int (g i j))) δ2) : EvS K (tCB (fun xs H Q => ∃ i j, xs = [.int i, .int j] ∧ Q (.int (g i j)) H) (tCons ta (tCons tb tNil))) δ Φ :=
  ev_opP (r := fun u v H Q => ∃ i j, [u, v] = [V.int i, V.int j] ∧ Q (.int (g i j)) H) (h.imp fun s1 δ1 h1 => h1.imp fun s2 δ2 ⟨i, j, e1, e2, q⟩ => ⟨.int i, .int j, .int (g i j), .inl e1, .inl e2, opP_flat rfl fun B H u v Q e d1 d2 k => ⟨i, j, by rw [dr_int d1, dr_int d2], k⟩, q⟩)
/-! ### isinstance -/
def tyN : PyData → String
  | .none => "NoneType" | .bool _ => "bool" | .int _ => "int" | .str _ => "str" | .list _ => "list" | .tuple _ => "tuple" | .dict _ => "dict"
theorem ty_of {H : Hp} {v : V} {x : PyData} (h : Dp K H v x) : TyX K H v (.type (tyN x)) := by
  cases h with
  | non => exact .base .non
  | bl b => exact .base (.bl b)
  | int i => exact .base (.int i)
  | str s => exact .base (.str s)
  | lst hs _ =>
    rcases hs with (h | ⟨o, h⟩) | ⟨o, its, n, hk, hc, _⟩
    · exact .base (.lst h)
    · exact .base (.frz h)
    · exact .kList hk hc
  | tup hs _ =>
    rcases hs with (h | ⟨o, h⟩) | ⟨o, its, n, hk, hc, _⟩
    · exact .base (.tup h)
    · exact .fTuple h
    · exact .kTuple hk hc
def isiD (x : PyData) (n : String) : Bool := (kitB (tyN x) n).getD false
def TyGood (n : String) : Prop := ∀ x : PyData, (∀ kv, x ≠ .dict kv) → kitB (tyN x) n = some (isiD x n)
theorem good_ty {n : String} (h : (kitB "NoneType" n).isSome = true ∧ (kitB "bool" n).isSome = true ∧ (kitB "int" n).isSome = true ∧ (kitB "str" n).isSome = true ∧ (kitB "list" n).isSome = true ∧ (kitB "tuple" n).isSome = true) : TyGood n := by
  have k : ∀ m, (kitB m n).isSome = true → kitB m n = some ((kitB m n).getD false) := fun m hm => by
    obtain ⟨b, hb⟩ := Option.isSome_iff_exists.mp hm
    rw [hb]
    rfl
  obtain ⟨h1, h2, h3, h4, h5, h6⟩ := h
  intro x hx
  cases x with
  | none => exact k _ h1
  | bool _ => exact k _ h2
  | int _ => exact k _ h3
  | str _ => exact k _ h4
  | list _ => exact k _ h5
  | tuple _ => exact k _ h6
  | dict kv => exact absurd rfl (hx kv)
theorem good_int : TyGood "int" := good_ty (by decide +kernel)
theorem good_bool : TyGood "bool" := good_ty (by decide +kernel)
theorem good_str : TyGood "str" := good_ty (by decide +kernel)
theorem good_list : TyGood "list" := good_ty (by decide +kernel)
theorem good_tuple : TyGood "tuple" := good_ty (by decide +kernel)
def isInt : PyData → Bool | .int _ => true | .bool _ => true | _ => false
def isBool : PyData → Bool | .bool _ => true | _ => false
def isStr : PyData → Bool | .str _ => true | _ => false
def isList : PyData → Bool | .list _ => true | _ => false
def isTup : PyData → Bool | .tuple _ => true | _ => false
theorem isi_int {x : PyData} (hx : ∀ kv, x ≠ .dict kv) : isiD x "int" = isInt x := by
  cases x with
  | none => show (kitB "NoneType" "int").getD false = false; decide +kernel
  | bool _ => show (kitB "bool" "int").getD false = true; decide +kernel
  | int _ => show (kitB "int" "int").getD false = true; decide +kernel
  | str _ => show (kitB "str" "int").getD false = false; decide +kernel
  | list _ => show (kitB "list" "int").getD false = false; decide +kernel
  | tuple _ => show (kitB "tuple" "int").getD false = false; decide +kernel
  | dict kv => exact absurd rfl (hx kv)
theorem isi_bool {x : PyData} (hx : ∀ kv, x ≠ .dict kv) : isiD x "bool" = isBool x := by
  cases x with
  | none => show (kitB "NoneType" "bool").getD false = false; decide +kernel
  | bool _ => show (kitB "bool" "bool").getD false = true; decide +kernel
  | int _ => show (kitB "int" "bool").getD false = false; decide +kernel
  | str _ => show (kitB "str" "bool").getD false = false; decide +kernel
  | list _ => show (kitB "list" "bool").getD false = false; decide +kernel
  | tuple _ => show (kitB "tuple" "bool").getD false = false; decide +kernel
  | dict kv => exact absurd rfl (hx kv)
theorem isi_str {x : PyData} (hx : ∀ kv, x ≠ .dict kv) : isiD x "str" = isStr x := by
  cases x with
  | none => show (kitB "NoneType" "str").getD false = false; decide +kernel
  | bool _ => show (kitB "bool" "str").getD false = false; decide +kernel
  | int _ => show (kitB "int" "str").getD false = false; decide +kernel
  | str _ => show (kitB "str" "str").getD false = true; decide +kernel
  | list _ => show (kitB "list" "str").getD false = false; decide +kernel
  | tuple _ => show (kitB "tuple" "str").getD false = false; decide +kernel
  | dict kv => exact absurd rfl (hx kv)
theorem isi_list {x : PyData} (hx : ∀ kv, x ≠ .dict kv) : isiD x "list" = isList x := by
  cases x with
  | none => show (kitB "NoneType" "list").getD false = false; decide +kernel
  | bool _ => show (kitB "bool" "list").getD false = false; decide +kernel
  | int _ => show (kitB "int" "list").getD false = false; decide +kernel
  | str _ => show (kitB "str" "list").getD false = false; decide +kernel
  | list _ => show (kitB "list" "list").getD false = true; decide +kernel
  | tuple _ => show (kitB "tuple" "list").getD false = false; decide +kernel
  | dict kv => exact absurd rfl (hx kv)
theorem isi_tup {x : PyData} (hx : ∀ kv, x ≠ .dict kv) : isiD x "tuple" = isTup x := by
  cases x with
  | none => show (kitB "NoneType" "tuple").getD false = false; decide +kernel
  | bool _ => show (kitB "bool" "tuple").getD false = false; decide +kernel
  | int _ => show (kitB "int" "tuple").getD false = false; decide +kernel
  | str _ => show (kitB "str" "tuple").getD false = false; decide +kernel
  | list _ => show (kitB "list" "tuple").getD false = false; decide +kernel
  | tuple _ => show (kitB "tuple" "tuple").getD false = true; decide +kernel
  | dict kv => exact absurd rfl (hx kv)
theorem dp_nodict {H : Hp} {v : V} {x : PyData} (h : Dp K H v x) : ∀ kv, x ≠ .dict kv := by
  intro kv e
  subst e
  cases h
theorem ev_isi {n : String} {f : PyData → Bool} (g : TyGood n) (gf : ∀ x, (∀ kv, x ≠ .dict kv) → isiD x n = f x) (h : EvS K ta δ fun s δ1 => ∃ x, den K δ1 s x ∧ Φ (.pu (.bool (f x))) δ1) : EvS K (tCB (rIsi K) (tCons ta (tCons (tC (.ty n)) tNil))) δ Φ :=
  ev_unP (r := fun v => rIsi K [v, .ty n]) (h.imp fun s δ1 ⟨x, h1, q⟩ => ⟨x, .bool (f x), h1, unP_flat rfl fun B H u Q e dd kk => by
    have hd := dd.dp e
    have nd := dp_nodict hd
    exact ⟨u, .ty n, .type (tyN x), .type n, isiD x n, rfl, .ty n, ty_of hd, kit_ty (g x nd), by rw [gf x nd]; exact kk⟩, q⟩)
/-! ### list(range(..)), [x] * n, slices -/
theorem rgV_ints (a b : Int) : rgV a b = ((List.range (b - a).toNat).map fun i => a + ((i : Nat) : Int)).map V.int := by
  unfold rgV
  rw [List.map_map]
  rfl
def rgI (a b : Int) : List Int := (List.range (b - a).toNat).map fun i => a + ((i : Nat) : Int)
theorem ev_listRg1 (h : EvS K ta δ fun s δ1 => ∃ k : Int, s = .pu (.int k) ∧ 0 ≤ k ∧ k ≤ 16777216 ∧ Φ (.ow (RL K ((rgI 0 k).map PyData.int))) δ1) : EvS K (tLstRg (tRg1 ta)) δ Φ :=
  ev_unL (r := fun x H1 Q => ∃ n, x = .int n ∧ (RgOk 0 n ∧ ∀ q, H1 q = none → Q (.ref q) (upd H1 q (.lst (rgV 0 n))))) (h.imp fun s δ1 ⟨k, h1, k0, k1, q⟩ => ⟨_, _, .inl h1, fun B H u Q e dd kk => by
    refine ⟨k, dr_int dd, RgOk.of_le (Int.le_refl 0) k1 (by omega) k0, fun q hq => ?_⟩
    rw [rgV_ints]
    exact kk q _ hq (dpa_ints _), q⟩)
/-- contents read at once: an owned list -/
theorem vok_own {B H : Hp} {σ : L2.St} {F' M : Addr → Prop} {v : V} {s : Slot} {ds : List PyData} (S : Sd K B H σ δ F') (w : VOk K σ δ B H v M s) (h : s = .ow (RL K ds) ∨ ∃ i, s = .al i ∧ δ[i]? = some (.ow (RL K ds))) : ∃ p xs, v = .ref p ∧ H p = some (.lst xs) ∧ DpAll K B xs ds := by
  rcases h with rfl | ⟨i, rfl, hi⟩
  · obtain ⟨p, xs, rfl, hp, ha, _⟩ := w
    exact ⟨p, xs, rfl, hp, ha⟩
  · obtain ⟨v', M', ev, ⟨p, xs, rfl, hp, ha, _⟩, _⟩ := S.opn hi
    rw [w.1] at ev
    cases ev
    exact ⟨p, xs, rfl, hp, ha⟩
theorem dpa_rep {B : Hp} {xs : List V} {ds : List PyData} (h : DpAll K B xs ds) : ∀ n : Nat, DpAll K B (List.replicate n xs).flatten (List.replicate n ds).flatten
  | 0 => .nil
  | n + 1 => by
    rw [List.replicate_succ, List.replicate_succ, List.flatten_cons, List.flatten_cons]
    exact dpa_append h (dpa_rep h n)
theorem ev_rep (h : EvS K ta δ fun s1 δ1 => EvS K tb δ1 fun s2 δ2 => ∃ ds, ∃ k : Int, s1 = .ow (RL K ds) ∧ s2 = .pu (.int k) ∧ -(2 ^ 63) ≤ k ∧ k < 2 ^ 63 ∧ ds.length * k.toNat ≤ 100000 ∧ Φ (.ow (RL K (List.replicate k.toNat ds).flatten)) δ2) : EvS K (tOp rRep ta tb) δ Φ := fun B H σ F Q S kk =>
  h B H σ F _ S fun v1 M1 s1 B1 H1 δ1 e1 f1 S1 w1 n1 p1 => p1 B1 H1 σ _ _ S1 fun v2 M2 s2 B2 H2 δ2 e2 f2 S2 w2 n2 ⟨ds, k, es1, es2, k1, k2, hl, q⟩ => by
    subst es1 es2
    have w1' : (RL K ds).P v1 B2 H2 M1 := (RL K ds).loc w1 e2 fun a ha => f2 a (.inr ha)
    obtain ⟨p, xs, rfl, hp, ha, hM⟩ := w1'
    have SF : Sd K B2 H2 σ δ2 F := S2.less fun a ha => .inl (.inl ha)
    refine ⟨p, k, xs, rfl, dp_int_inv w2.1, hp, k1, k2, Evl.sz_of (by rw [dpa_len ha]; exact hl), fun r hr => ?_⟩
    refine kk (.ref r) (fun a => a = r) (.ow (RL K _)) B2 _ δ2 (e1.trans e2) (fun a ha => ?_) (sd_own SF hr) (rl_new (dpa_rep ha k.toNat)) (fun a ha f => ?_) q
    · rw [upd_ne (fun z => SF.fl a ha (by rw [z]; exact hr)), f2 a (.inl ha), f1 a ha]
    · rw [ha] at f; exact SF.fl r f hr
theorem ev_cat (h : EvS K ta δ fun s1 δ1 => EvS K tb δ1 fun s2 δ2 => ∃ ds es, (s1 = .ow (RL K ds) ∨ ∃ i, s1 = .al i ∧ δ2[i]? = some (.ow (RL K ds))) ∧ (s2 = .ow (RL K es) ∨ ∃ i, s2 = .al i ∧ δ2[i]? = some (.ow (RL K es))) ∧ ds.length + es.length ≤ 100000 ∧ Φ (.ow (RL K (ds ++ es))) δ2) : EvS K (tOp rCat ta tb) δ Φ := fun B H σ F Q S kk =>
  h B H σ F _ S fun v1 M1 s1 B1 H1 δ1 e1 f1 S1 w1 n1 p1 => p1 B1 H1 σ _ _ S1 fun v2 M2 s2 B2 H2 δ2 e2 f2 S2 w2 n2 ⟨ds, es, h1, h2, hl, q⟩ => by
    have w1' : VOk K σ δ2 B2 H2 v1 M1 s1 := w1.step e2 fun a ha => f2 a (.inr ha)
    obtain ⟨p, xs, rfl, hp, ha⟩ := vok_own S2 w1' h1
    obtain ⟨p2, ys, rfl, hp2, ha2⟩ := vok_own S2 w2 h2
    have SF : Sd K B2 H2 σ δ2 F := S2.less fun a ha => .inl (.inl ha)
    refine ⟨p, p2, xs, ys, rfl, rfl, hp, hp2, Evl.sz_of (by rw [dpa_len ha, dpa_len ha2]; exact hl), fun r hr => ?_⟩
    refine kk (.ref r) (fun a => a = r) (.ow (RL K _)) B2 _ δ2 (e1.trans e2) (fun a ha => ?_) (sd_own SF hr) (rl_new (dpa_append ha ha2)) (fun a ha f => ?_) q
    · rw [upd_ne (fun z => SF.fl a ha (by rw [z]; exact hr)), f2 a (.inl ha), f1 a ha]
    · rw [ha] at f; exact SF.fl r f hr
/-- parts of a slice -/
def EvO (K : PySem.W.Frag) (to : TO) (δ : List Slot) (Φ : Option Int → List Slot → Prop) : Prop :=
  ∀ (B H : Hp) (σ : L2.St) (F : Addr → Prop) (Q : Option Int → Hp → Prop), Sd K B H σ δ F →
    (∀ b B2 H2 δ2, Ex B B2 → (∀ a, F a → H2 a = H a) → Sd K B2 H2 σ δ2 F → Φ b δ2 → Q b H2) → to σ H Q
theorem eo_none {Φ : Option Int → List Slot → Prop} (h : Φ none δ) : EvO K tNoPart δ Φ := fun B H σ F Q S k => k none B H δ (Ex.refl _) (fun _ _ => rfl) S h
theorem eo_some {Φ : Option Int → List Slot → Prop} (h : EvS K ta δ fun s δ1 => ∃ i : Int, s = .pu (.int i) ∧ Φ (some i) δ1) : EvO K (tPart ta) δ Φ := fun B H σ F Q S k =>
  h B H σ F _ S fun v M s B2 H2 δ2 e f S2 w n ⟨i, es, q⟩ => by
    subst es
    exact ⟨i, dp_int_inv w.1, k (some i) B2 H2 δ2 e f (S2.less fun a z => .inl z) q⟩
def cutD (ds : List PyData) (lo hi : Option Int) : List PyData := (ds.drop (HT.sIx ds.length 0 lo)).take (HT.sIx ds.length ds.length hi - HT.sIx ds.length 0 lo)
theorem dpa_cut {B : Hp} {xs : List V} {ds : List PyData} {lo hi : Option Int} (h : DpAll K B xs ds) : DpAll K B (cutV xs lo hi) (cutD ds lo hi) := by
  unfold cutV cutD
  rw [dpa_len h]
  exact dpa_take _ (dpa_drop _ h)
theorem ev_slL {tl th : TO} (h : EvS K ta δ fun s δ1 => EvO K tl δ1 fun lo δ2 => EvO K th δ2 fun hi δ3 => ∃ ds, den K δ3 s (.list ds) ∧ Φ (.ow (RL K (cutD ds lo hi))) δ3) : EvS K (tSl (rSlL K) ta tl th) δ Φ := fun B H σ F Q S kk =>
  h B H σ F _ S fun v1 M1 s1 B1 H1 δ1 e1 f1 S1 w1 n1 p1 => p1 B1 H1 σ _ _ S1 fun lo B2 H2 δ2 e2 f2 S2 p2 => p2 B2 H2 σ _ _ S2 fun hi B3 H3 δ3 e3 f3 S3 ⟨ds, hd, q⟩ => by
    have w1' : VOk K σ δ3 B3 H3 v1 M1 s1 := w1.step (e2.trans e3) fun a ha => (f3 a (.inr ha)).trans (f2 a (.inr ha))
    obtain ⟨p, xs, rfl, hs, ha⟩ := (den_dr S3 w1' hd).lst S3.bh
    have SF : Sd K B3 H3 σ δ3 F := S3.less fun a ha => .inl ha
    refine ⟨p, xs, rfl, hs, fun r hr => ?_⟩
    refine kk (.ref r) (fun a => a = r) (.ow (RL K _)) B3 _ δ3 ((e1.trans e2).trans e3) (fun a ha => ?_) (sd_own SF hr) (rl_new (dpa_cut ha)) (fun a ha f => ?_) q
    · rw [upd_ne (fun z => SF.fl a ha (by rw [z]; exact hr)), f3 a (.inl ha), f2 a (.inl ha), f1 a ha]
    · rw [ha] at f; exact SF.fl r f hr
theorem ev_slT {tl th : TO} (h : EvS K ta δ fun s δ1 => EvO K tl δ1 fun lo δ2 => EvO K th δ2 fun hi δ3 => ∃ ds, s = .pu (.tuple ds) ∧ Φ (.pu (.tuple (cutD ds lo hi))) δ3) : EvS K (tSl (rSlA K) ta tl th) δ Φ := fun B H σ F Q S kk =>
  h B H σ F _ S fun v1 M1 s1 B1 H1 δ1 e1 f1 S1 w1 n1 p1 => p1 B1 H1 σ _ _ S1 fun lo B2 H2 δ2 e2 f2 S2 p2 => p2 B2 H2 σ _ _ S2 fun hi B3 H3 δ3 e3 f3 S3 ⟨ds, es, q⟩ => by
    subst es
    have w1' := dp_mono (e2.trans e3) _ _ w1.1
    have SF : Sd K B3 H3 σ δ3 F := S3.less fun a ha => .inl ha
    have w2 := w1'
    cases w1' with
    | @tup p xs _ hs ha =>
      refine ⟨p, xs, rfl, Evl.ex_t S3.bh hs, fun ⟨c1, c2⟩ => ?_, fun c r hr => ?_⟩
      · have hc : cutD ds lo hi = ds := by
          unfold cutD
          rw [← dpa_len ha, c1, c2, List.drop_zero, Nat.sub_zero, dpa_len ha, List.take_length]
        rw [hc] at q
        exact kk _ (fun _ => False) (.pu (.tuple ds)) B3 H3 δ3 ((e1.trans e2).trans e3) (fun a z => by rw [f3 a (.inl z), f2 a (.inl z), f1 a z]) (SF.less fun a z => z.elim id False.elim) ⟨w2, fun _ z => z⟩ (fun _ z => z.elim) q
      · have g := Gr.new (o := .tup (cutV xs lo hi)) S3.bh hr
        exact kk _ (fun _ => False) (.pu (.tuple (cutD ds lo hi))) _ _ δ3 (((e1.trans e2).trans e3).trans g.b) (fun a z => by rw [ex_eq g.h (SF.fl a z), f3 a (.inl z), f2 a (.inl z), f1 a z]) ((SF.grow g).less fun a z => z.elim id False.elim) ⟨.tup (SqT.of upd_same) (dpa_mono g.b _ _ (dpa_cut ha)), fun _ z => z⟩ (fun _ z => z.elim) q
end
end Dl

namespace Dl
open PySem PySem.Spec PyProof.Rows L2
open Evl (Ex)
section
variable {K : PySem.W.Frag} {w : World} {δ : List Slot} {te ta tb tc : TE} {tr : TA} {tt : TT} {t u : TS} {d : Dn} {Φ : Slot → List Slot → Prop}
theorem seq_ints {B H : Hp} {v : V} {ns : List Int} (e : Ex B H) (h : Dr K B H v (.list (ns.map PyData.int)) ∨ Dr K B H v (.tuple (ns.map PyData.int))) : ∃ p, v = .ref p ∧ (SqL K H p (ns.map V.int) ∨ SqT K H p (ns.map V.int)) := by
  obtain ⟨p, xs, rfl, hs, ha⟩ := dr_seq e h
  rw [dpa_ints_inv ha] at hs
  exact ⟨p, rfl, hs⟩
/-- sorted(set(xs)) of ints -/
theorem ev_sortedSetJ (h : EvS K te δ fun s δ1 => ∃ ns : List Int, (den K δ1 s (.list (ns.map PyData.int)) ∨ den K δ1 s (.tuple (ns.map PyData.int))) ∧ ns.length ≤ 4094 ∧ (∀ l : List Int, l.Nodup → (∀ k, k ∈ l ↔ k ∈ ns) → l.length < 64) ∧ ∀ ns' : List Int, ns'.Pairwise (· < ·) → (∀ k, k ∈ ns' ↔ k ∈ ns) → Φ (.ow (RL K (ns'.map PyData.int))) δ1) : EvS K (tCB (rSortedSet w) (tCons (tCB (Rk.rSetI K w) (tCons te tNil)) tNil)) δ Φ := fun B H σ F Q S kk =>
  h B H σ F _ S fun v M s B1 H1 δ1 e1 f1 S1 w1 n1 ⟨ns, hd, hl, h64, q⟩ => by
    have hdr : Dr K B1 H1 v (.list (ns.map PyData.int)) ∨ Dr K B1 H1 v (.tuple (ns.map PyData.int)) := hd.imp (den_dr S1 w1) (den_dr S1 w1)
    obtain ⟨p, rfl, hs⟩ := seq_ints S1.bh hdr
    have SF : Sd K B1 H1 σ δ1 F := S1.less fun a ha => .inl ha
    refine ⟨p, ns, rfl, hs, hl, fun r l hr hnd hmem => ?_⟩
    refine ⟨r, _, l.length, rfl, upd_same, h64 l hnd hmem, fun ns' r2 h1 h2 _ hr2 => ?_⟩
    have gr : Gr B1 H1 B1 (upd H1 r (SetO w r (fun j => decide (j ∈ ns)) l.length)) := Gr.own S1.bh hr
    have S2 := SF.grow gr
    refine kk (.ref r2) (fun a => a = r2) (.ow (RL K _)) B1 _ δ1 e1 (fun a ha => ?_) (sd_own S2 hr2) (rl_new (dpa_ints ns')) (fun a ha f => ?_) (q ns' h1 fun k => ?_)
    · rw [upd_ne (fun z => S2.fl a ha (by rw [z]; exact hr2)), ex_eq gr.h (SF.fl a ha), f1 a ha]
    · rw [ha] at f; exact S2.fl r2 f hr2
    · rw [h2 k, decide_eq_true_eq]
theorem nodup_sub : ∀ {l ns : List Int}, l.Nodup → (∀ k, k ∈ l → k ∈ ns) → l.length ≤ ns.length
  | [], _, _, _ => Nat.zero_le _
  | a :: l, ns, h, hs => by
    obtain ⟨h1, h2⟩ := List.nodup_cons.mp h
    have ha := hs a (List.mem_cons_self ..)
    have := nodup_sub (l := l) (ns := ns.erase a) h2 fun k hk => (List.mem_erase_of_ne (fun e => h1 (by rw [← e]; exact hk))).mpr (hs k (List.mem_cons_of_mem _ hk))
    rw [List.length_erase_of_mem ha] at this
    have := List.length_pos_of_mem ha
    rw [List.length_cons]
    omega
theorem ev_sortedSet (h : EvS K te δ fun s δ1 => ∃ ns : List Int, (den K δ1 s (.list (ns.map PyData.int)) ∨ den K δ1 s (.tuple (ns.map PyData.int))) ∧ ns.length < 64 ∧ ∀ ns' : List Int, ns'.Pairwise (· < ·) → (∀ k, k ∈ ns' ↔ k ∈ ns) → Φ (.ow (RL K (ns'.map PyData.int))) δ1) : EvS K (tCB (rSortedSet w) (tCons (tCB (Rk.rSetI K w) (tCons te tNil)) tNil)) δ Φ :=
  ev_sortedSetJ (h.imp fun s δ1 ⟨ns, h1, h2, h3⟩ => ⟨ns, h1, by omega, fun l hl hm => by have := nodup_sub hl fun k hk => (hm k).mp hk; omega, h3⟩)
/-- for i, x in enumerate(a tuple) -/
theorem xs_forET {g : TG} (h : EvD K te δ fun x δ1 => ∃ ds, x = .tuple ds ∧ ∃ Pv : Nat → List Slot → Prop, Pv 0 δ1 ∧ (∀ (i : Nat) y δ', ds[i]? = some y → Pv i δ' → Turn1 K g t d (.tuple [.int (i : Int), y]) (Pv (i + 1)) δ') ∧ ∀ δ', Pv ds.length δ' → d.nx δ') : ExS K (tFor (Rk.iEnumT K (tCons te tNil)) g t) d δ := fun B H σ F D S L =>
  h B H σ F _ S fun v x B2 H2 δ1 e f S2 hd ⟨ds, ex, Pv, h0, hs, hn⟩ => by
    subst ex
    cases hd with
    | @tup p xs _ hq ha =>
      have len := dpa_len ha
      refine ⟨p, xs, rfl, Evl.ex_t S2.bh hq, ?_⟩
      refine for_core (n := ds.length) (item := fun i => .tuple [.int (i : Int), ds.getD i .none]) Pv S2 F (fun a z => z) (L.step e f) h0 (fun i hi B' H' σ' δ' e' f' S' p' => ?_) (fun B' H' σ' δ' e' f' S' p' => ?_) (fun i δ' hi q => hs i _ δ' (by rw [List.getD_eq_getElem?_getD, List.getElem?_eq_getElem hi]; rfl) q) hn
      · have hq' : SqT K H' p xs := Evl.ex_t (e'.trans S'.bh) hq
        obtain ⟨w, hw, hdw⟩ := dpa_get ha (List.getElem?_eq_getElem hi)
        refine ⟨⟨xs, w, hq', hw⟩, fun y H3 hy => ?_⟩
        obtain ⟨T, x', e1, hT, e2, e3⟩ := hy
        subst e1 e2
        have e4 := (e3 xs hq').symm.trans hw
        cases e4
        have gr := Gr.new (o := .tup [.int (i : Nat), w]) S'.bh hT
        refine ⟨_, gr, .tup (SqT.of upd_same) (.cons (.int _) (.cons ?_ .nil))⟩
        rw [List.getD_eq_getElem?_getD, List.getElem?_eq_getElem hi]
        exact dp_mono (e'.trans gr.b) _ _ hdw
      · exact ⟨xs, Evl.ex_t (e'.trans S'.bh) hq, Nat.le_of_eq len⟩
/-- xs.extend(ys), xs at the name j -/
theorem ev_extend {j : Nat} {ds0 : List PyData} (h0 : δ[j]? = some (.ow (RL K ds0))) (h : EvS K te δ fun s δ1 => ∃ ds es, δ1[j]? = some (.ow (RL K ds)) ∧ (den K δ1 s (.list es) ∨ den K δ1 s (.tuple es)) ∧ ds.length + es.length ≤ 100000 ∧ Φ (.pu .none) (δ1.set j (.ow (RL K (ds ++ es))))) : EvS K (tBM K "list" (Rk.rExtendA K) (tVar j) (tCons te tNil)) δ Φ := fun B H σ F Q S k => by
  obtain ⟨v, M, ev, ⟨p, xs0, rfl, hp0, _⟩, _⟩ := S.opn h0
  refine ⟨_, ev, .inl ⟨rfl, xs0, SqL.of hp0⟩, h B H σ F _ S fun u M2 s B2 H2 δ1 e f S2 wk n ⟨ds, es, hj, hd, hl, q⟩ => ?_⟩
  have S2' : Sd K B2 H2 σ δ1 F := S2.less fun a z => .inl z
  have hdr : Dr K B2 H2 u (.list es) ∨ Dr K B2 H2 u (.tuple es) := hd.imp (den_dr S2 wk) (den_dr S2 wk)
  obtain ⟨b, zs, rfl, hs, hz⟩ := dr_seq S2.bh hdr
  obtain ⟨_, _, xs, hp, ha⟩ := S2'.setL (B2 := B2) (xs := []) (ys := []) (ds' := []) hj ev .nil
  obtain ⟨S3, f3, _⟩ := S2'.setL (B2 := B2) (xs := []) hj ev (dpa_append ha hz)
  refine ⟨p, b, xs, zs, rfl, rfl, hp, hs, Evl.sz_of (by rw [dpa_len ha, dpa_len hz]; exact hl), ?_⟩
  exact k .non (fun _ => False) (.pu .none) B2 _ _ e (fun a z => (f3 a z).trans (f a z)) (S3.less fun a z => z.elim id False.elim) ⟨.non, fun _ z => z⟩ (fun _ z => z.elim) q
/-- xs.remove(k), ints, xs at the name j -/
theorem ev_remove {j : Nat} {ns0 : List Int} (h0 : δ[j]? = some (.ow (RL K (ns0.map PyData.int)))) (h : EvS K te δ fun s δ1 => ∃ (ns : List Int) (k : Int) (i : Nat), δ1[j]? = some (.ow (RL K (ns.map PyData.int))) ∧ s = .pu (.int k) ∧ ns[i]? = some k ∧ (∀ m : Nat, m < i → ns[m]? ≠ some k) ∧ Φ (.pu .none) (δ1.set j (.ow (RL K ((ns.eraseIdx i).map PyData.int))))) : EvS K (tBM K "list" rRemI (tVar j) (tCons te tNil)) δ Φ := fun B H σ F Q S kk => by
  obtain ⟨v, M, ev, ⟨p, xs0, rfl, hp0, _⟩, _⟩ := S.opn h0
  refine ⟨_, ev, .inl ⟨rfl, xs0, SqL.of hp0⟩, h B H σ F _ S fun u M2 s B2 H2 δ1 e f S2 wk n ⟨ns, k, i, hj, es, hi, hno, q⟩ => ?_⟩
  subst es
  have S2' : Sd K B2 H2 σ δ1 F := S2.less fun a z => .inl z
  obtain ⟨_, _, xs, hp, ha⟩ := S2'.setL (B2 := B2) (xs := []) (ys := []) (ds' := []) hj ev .nil
  have ex := dpa_ints_inv ha
  subst ex
  obtain ⟨S3, f3, _⟩ := S2'.setL (B2 := B2) (xs := []) (ys := (ns.eraseIdx i).map V.int) hj ev (dpa_ints _)
  exact ⟨p, ns, k, i, rfl, by rw [dp_int_inv wk.1], hp, hi, hno, kk .non (fun _ => False) (.pu .none) B2 _ _ e (fun a z => (f3 a z).trans (f a z)) (S3.less fun a z => z.elim id False.elim) ⟨.non, fun _ z => z⟩ (fun _ z => z.elim) q⟩
end
/-! ### dice -/
def DiceOk (xs : List Int) : Prop := 2 ≤ xs.length ∧ xs.length ≤ 1000 ∧ ∀ x ∈ xs, 0 ≤ x
/-- the list of draws at d -/
def RDi (d : Addr) : Res where
  P v B H M := v = .ref d ∧ (∃ xs, DiceOk xs ∧ H d = some (.lst (xs.map V.int))) ∧ ∀ a, M a ↔ a = d
  loc := by
    rintro v B H B' H' M ⟨rfl, ⟨xs, ok, hd⟩, hM⟩ e k
    exact ⟨rfl, ⟨xs, ok, by rw [k d ((hM d).mpr rfl)]; exact hd⟩, hM⟩
  live := by
    rintro v B H M ⟨rfl, ⟨xs, ok, hd⟩, hM⟩ a ha
    rw [(hM a).mp ha, hd]
    exact fun z => nomatch z
/-- a def whose first argument is the list of draws -/
def spDi (K : PySem.W.Frag) (n : Nat) (pre : List PyData → Prop) (T : List PyData → Rt → Prop) : Sp := fun vs H Q _ =>
  ∃ B d rest ds xs, vs = .ref d :: rest ∧ Ex B H ∧ B d = none ∧ H d = some (.lst (xs.map V.int)) ∧ DiceOk xs ∧ DpAll K B rest ds ∧ ds.length = n ∧ pre ds ∧
    ∀ v B2 H2 r xs', Ex B B2 → Ex B2 H2 → (∀ a o, a ≠ d → H a = some o → H2 a = some o) → (∀ a o, B2 a = some o → B a = some o ∨ H a = none) → H2 d = some (.lst (xs'.map V.int)) → DiceOk xs' → RtOk K H B2 H2 v r → T ds r → Q v H2
theorem spDi_len {K : PySem.W.Frag} {n : Nat} {pre : List PyData → Prop} {T : List PyData → Rt → Prop} {vs : List V} {H : Hp} {Q : VK} {E : XK} (h : spDi K n pre T vs H Q E) : vs.length = n + 1 := by
  obtain ⟨B, d, rest, ds, xs, rfl, _, _, _, _, ha, hn, _⟩ := h
  rw [List.length_cons, dpa_len ha, hn]
section
variable {K : PySem.W.Frag} {w : World} {δ : List Slot} {te ta tb tc : TE} {tr : TA} {tt : TT} {t u : TS} {Φ : Slot → List Slot → Prop}
theorem set_selfD {i : Nat} {x : Slot} (h : δ[i]? = some x) : δ.set i x = δ := by
  apply List.ext_getElem?
  intro j
  by_cases e : j = i
  · subst e
    rw [h, List.getElem?_set_self (List.getElem?_eq_some_iff.mp h).1]
  · rw [List.getElem?_set_ne (Ne.symm e)]
theorem ev_callD {i n : Nat} {d : Addr} {pre : List PyData → Prop} {T : List PyData → Rt → Prop} {E : XK} (h0 : δ[i]? = some (.ow (RDi d))) (h : EvDs K tr δ fun ds δ1 => δ1[i]? = some (.ow (RDi d)) ∧ ds.length = n ∧ pre ds ∧ ∀ r, T ds r → Φ (r.slot K) δ1) : EvS K (tCall (spDi K n pre T) [] E (tCons (tVar i) tr)) δ Φ := fun B H σ F Q S k => by
  obtain ⟨v, M, ev, ⟨rfl, _, _⟩, _⟩ := S.opn h0
  refine ⟨_, ev, h B H σ F _ S fun vs ds B2 H2 δ1 e f S2 ha ⟨hi, hn, hp, q⟩ => ?_⟩
  show spDi K n pre T (.ref d :: vs ++ []) H2 Q E
  rw [List.append_nil]
  obtain ⟨v', M', ev', ⟨ed, ⟨xs, ok, hd⟩, hM⟩, hb, hF, op⟩ := S2.opn hi
  subst ed
  have hbd : B2 d = none := hb d ((hM d).mpr rfl)
  refine ⟨B2, d, vs, ds, xs, rfl, S2.bh, hbd, hd, ok, ha, hn, hp, fun v B3 H3 r xs' e3 bh3 h3 nw3 hd3 ok3 hr hT => ?_⟩
  have hb3 : B3 d = none := by
    cases z : B3 d with
    | none => rfl
    | some o =>
      rcases nw3 d o z with y | y
      · rw [hbd] at y; cases y
      · rw [hd] at y; cases y
  have S3 := op B3 H3 (some (.ref d)) (.ow (RDi d)) (fun a => a = d) e3 bh3 (fun a o ha' nm => h3 a o (fun z => nm ((hM a).mpr z)) ha') (fun a o z => (nw3 a o z).imp id .inl) ⟨_, rfl, ⟨rfl, ⟨xs', ok3, hd3⟩, fun _ => Iff.rfl⟩, fun a z => by rw [z]; exact hb3⟩ (fun a z => .inl ((hM a).mpr z))
  rw [set_self ev', set_selfD hi] at S3
  have f3 : ∀ a, F a → H3 a = H a := fun a z => by
    obtain ⟨o, ho⟩ := some_of_ne (S2.fl a z)
    rw [h3 a o (fun y => hF a ((hM a).mpr y) z) ho, ← ho, f a z]
  cases r with
  | d z => exact k v (fun _ => False) (.pu z) B3 H3 δ1 (e.trans e3) f3 (S3.less fun a z => z.elim id False.elim) ⟨hr, fun _ z => z⟩ (fun _ z => z.elim) (q _ hT)
  | l zs =>
    obtain ⟨p, ys, rfl, hp0, hbp, hp3, hx⟩ := hr
    have S4 : Sd K B3 H3 σ δ1 (fun a => F a ∨ a = p) := by
      obtain ⟨ms, h1, h2, h3', h4⟩ := S3.sl
      obtain ⟨ms0, k1, k2, k3, k4⟩ := S2.sl
      have live2 : ∀ j a, ms0 j a → H2 a ≠ none := fun j a hj => by
        have hl := k4 j a hj
        have q2 := k1 j δ1[j] (List.getElem?_eq_getElem hl)
        cases e5 : δ1[j] with
        | non => rw [e5] at q2; exact absurd hj (q2 a)
        | pu x => rw [e5] at q2; obtain ⟨_, _, _, z⟩ := q2; exact absurd hj (z a)
        | ow R => rw [e5] at q2; obtain ⟨_, _, hP, _⟩ := q2; exact R.live hP a hj
        | al j => rw [e5] at q2; exact q2.elim
      -- the same footprints as before the call
      refine ⟨bh3, S3.len, fun a ha => ?_, fun a ha => ?_, ms0, fun j s hs => ?_, k2, fun j a q z => ?_, k4⟩
      · rcases ha with z | rfl
        · exact S3.fb a z
        · exact hbp
      · rcases ha with z | rfl
        · exact S3.fl a z
        · rw [hp3]; exact fun z => nomatch z
      · have q2 := k1 j s hs
        cases s with
        | non => exact q2
        | pu x => obtain ⟨u, e5, hdx, hMx⟩ := q2; exact ⟨u, e5, dp_mono e3 _ _ hdx, hMx⟩
        | ow R =>
          obtain ⟨u, e5, hP, hbb⟩ := q2
          by_cases hjd : ms0 j d
          · -- the slot of the draws itself
            obtain ⟨u3, e6, hP3, hb3'⟩ := h1 j _ hs
            have hij : j = i := by
              obtain ⟨u4, e7, hP4, _⟩ := k1 i _ hi
              exact k2 j i d hjd ((hP4.2.2 d).mpr rfl)
            subst hij
            rw [hi] at hs
            cases hs
            have eM : ms0 j = fun a => a = d := funext fun a => propext (hP.2.2 a)
            rw [eM]
            exact ⟨.ref d, ev', ⟨rfl, ⟨xs', ok3, hd3⟩, fun _ => Iff.rfl⟩, fun a z => by rw [z]; exact hb3⟩
          · have same : ∀ a, ms0 j a → H3 a = H2 a := fun a ha => by
              obtain ⟨o, ho⟩ := some_of_ne (live2 j a ha)
              rw [ho]
              exact h3 a o (fun z => hjd (by rw [← z]; exact ha)) ho
            refine ⟨u, e5, R.loc hP e3 same, fun a ha => ?_⟩
            cases z : B3 a with
            | none => rfl
            | some o =>
              rcases nw3 a o z with y | y
              · rw [hbb a ha] at y; cases y
              · exact absurd y (live2 j a ha)
        | al j => exact q2
      · rcases z with z | rfl
        · exact k3 j a q z
        · exact live2 j a q hp0
    exact k (.ref p) (fun a => a = p) (.ow (RL K zs)) B3 H3 δ1 (e.trans e3) f3 S4 ⟨p, ys, rfl, hp3, hx, fun _ => Iff.rfl⟩ (fun a z z2 => S2.fl a z2 (by rw [z]; exact hp0)) (q _ hT)
/-- a def whose first argument is the list of draws, by its body -/
theorem body_Di {n : Nat} {pre : List PyData → Prop} {T : List PyData → Rt → Prop} {N : List Str} {vs : List V} {H : Hp} {Q : VK} {E : XK} (h : spDi K n pre T vs H Q E)
    (hx : ∀ d ds, ds.length = n → pre ds → ExS K t { nx := fun δ2 => T ds (.d .none) ∧ δ2[0]? = some (.ow (RDi d)), rt := fun s δ2 => RtS K (T ds) s δ2 ∧ δ2[0]? = some (.ow (RDi d)) ∧ s ≠ .al 0 } (.ow (RDi d) :: (ds.map Slot.pu ++ List.replicate (N.length - (ds.length + 1)) Slot.non))) : t { nx := fun _ H' => Q .non H', rt := Q } (L2.start N vs) H := by
  obtain ⟨B, d, rest, ds, xs, rfl, eB, hbd, hd, ok, ha, hn, hp, q⟩ := h
  have hl := dpa_len ha
  let F : Addr → Prop := fun a => H a ≠ none ∧ B a = none ∧ a ≠ d
  have est : L2.start N (.ref d :: rest) = some (.ref d) :: (rest.map some ++ List.replicate (N.length - (rest.length + 1)) none) := by
    unfold L2.start
    rw [List.map_cons, List.length_cons, List.cons_append]
  have S0 : Sd K B H (L2.start N (.ref d :: rest)) (.ow (RDi d) :: (ds.map Slot.pu ++ List.replicate (N.length - (ds.length + 1)) Slot.non)) F := by
    rw [est]
    refine ⟨eB, by simp [hl], fun a z => z.2.1, fun a z => z.1, fun i a => i = 0 ∧ a = d, fun i s hs => ?_, fun i j a z1 z2 => by rw [z1.1, z2.1], fun i a z f => f.2.2 z.2, fun i a z => by rw [z.1]; exact Nat.zero_lt_succ _⟩
    cases i with
    | zero =>
      rw [List.getElem?_cons_zero] at hs
      cases hs
      exact ⟨.ref d, rfl, ⟨rfl, ⟨xs, ok, hd⟩, fun a => ⟨fun z => z.2, fun z => ⟨rfl, z⟩⟩⟩, fun a z => by rw [z.2]; exact hbd⟩
    | succ i =>
      rw [List.getElem?_cons_succ] at hs
      by_cases hlt : i < ds.length
      · rw [List.getElem?_append_left (by rw [List.length_map]; exact hlt), List.getElem?_map] at hs
        cases hdi : ds[i]? with
        | none => rw [hdi] at hs; cases hs
        | some x =>
          rw [hdi] at hs
          cases hs
          obtain ⟨v, hv, hxx⟩ := dpa_get ha hdi
          rw [List.getElem?_cons_succ, List.getElem?_append_left (by rw [List.length_map, hl]; exact hlt), List.getElem?_map, hv]
          exact ⟨v, rfl, hxx, fun _ z => nomatch z.1⟩
      · rw [List.getElem?_append_right (by rw [List.length_map]; omega)] at hs
        rw [List.eq_of_mem_replicate (List.mem_of_getElem? hs)]
        exact fun _ z => nomatch z.1
  have fin : ∀ B2 H2 σ2 δ2 F', Ex B B2 → (∀ a, F a → H2 a = H a) → Sd K B2 H2 σ2 δ2 F' → (∀ a, F a → F' a) → δ2[0]? = some (.ow (RDi d)) → Ex B2 H2 ∧ (∀ a o, a ≠ d → H a = some o → H2 a = some o) ∧ (∀ a o, B2 a = some o → B a = some o ∨ H a = none) ∧ ∃ xs', H2 d = some (.lst (xs'.map V.int)) ∧ DiceOk xs' ∧ B2 d = none := fun B2 H2 σ2 δ2 F' e f S hF' h0 => by
    obtain ⟨v, M, ev, ⟨_, ⟨xs', ok', hd'⟩, hM⟩, hb, _⟩ := S.opn h0
    have hbd2 : B2 d = none := hb d ((hM d).mpr rfl)
    refine ⟨S.bh, fun a o hne ho => ?_, fun a o ho => ?_, xs', hd', ok', hbd2⟩
    · cases hba : B a with
      | none => rw [f a ⟨nn_of ho, hba, hne⟩]; exact ho
      | some o' =>
        have e1 := eB a o' hba
        rw [ho] at e1
        cases e1
        exact S.bh a o (e a o hba)
    · cases hba : B a with
      | some o' => exact .inl (by rw [e a o' hba] at ho; exact ho)
      | none =>
        refine .inr ?_
        cases hh : H a with
        | none => rfl
        | some u =>
          by_cases hne : a = d
          · rw [hne, hbd2] at ho; cases ho
          · rw [S.fb a (hF' a ⟨nn_of hh, hba, hne⟩)] at ho; cases ho
  have fresh : ∀ (B2 : Hp) (p : Addr), Ex B B2 → B2 p = none → ¬ F p → p ≠ d → H p = none := fun B2 p e hb nf hne => by
    cases hh : H p with
    | none => rfl
    | some u => exact absurd ⟨nn_of hh, exnone e hb, hne⟩ nf
  refine hx d ds hn hp B H _ F _ S0 ⟨fun B2 H2 σ2 δ2 e f S ⟨p, p0⟩ => ?_, fun _ _ _ _ _ _ _ z => z.elim, fun _ _ _ _ _ _ _ z => z.elim, fun v M s B2 H2 σ2 δ2 e f S w n ⟨p, p0, p1⟩ => ?_, fun _ _ _ _ _ _ _ _ _ _ _ z => False.elim z⟩
  · obtain ⟨g1, g2, g3, xs', g4, g5, g6⟩ := fin B2 H2 σ2 δ2 F e f S (fun _ z => z) p0
    exact q .non B2 H2 (.d .none) xs' e g1 g2 g3 g4 g5 .non p
  · obtain ⟨g1, g2, g3, xs', g4, g5, g6⟩ := fin B2 H2 σ2 δ2 _ e f S (fun _ z => .inl z) p0
    have S' : Sd K B2 H2 σ2 δ2 F := S.less fun a z => .inl z
    rcases p with ⟨z, rfl, hT⟩ | ⟨zs, hs, hT⟩
    · exact q v B2 H2 (.d z) xs' e g1 g2 g3 g4 g5 w.1 hT
    · rcases hs with rfl | ⟨i, rfl, hi⟩
      · obtain ⟨p, ys, rfl, h3, hxx, hM⟩ := w
        have hb2 : B2 p = none := S.fb p (.inr ((hM p).mpr rfl))
        have hne : p ≠ d := fun z => by
          obtain ⟨ms, k1, k2, k3, k4⟩ := S.sl
          obtain ⟨u, eu, hP, _⟩ := k1 0 _ p0
          exact k3 0 d ((hP.2.2 d).mpr rfl) (.inr ((hM d).mpr z.symm))
        exact q _ B2 H2 (.l zs) xs' e g1 g2 g3 g4 g5 ⟨p, ys, rfl, fresh B2 p e hb2 (n p ((hM p).mpr rfl)) hne, hb2, h3, hxx⟩ hT
      · obtain ⟨v', M', ev, ⟨p, ys, rfl, h3, hxx, hM⟩, hb, hF, _⟩ := S'.opn hi
        rw [w.1] at ev
        cases ev
        have hb2 : B2 p = none := hb p ((hM p).mpr rfl)
        have hne : p ≠ d := fun z => by
          obtain ⟨ms, k1, k2, k3, k4⟩ := S'.sl
          obtain ⟨u, eu, hP, _⟩ := k1 0 _ p0
          obtain ⟨u2, eu2, hP2, _⟩ := k1 i _ hi
          obtain ⟨p2, ys2, e7, h8, _, hM2⟩ := hP2
          rw [w.1] at eu2
          cases eu2
          cases e7
          have e9 := k2 0 i d ((hP.2.2 d).mpr rfl) ((hM2 d).mpr z.symm)
          exact p1 (by rw [← e9])
        exact q _ B2 H2 (.l zs) xs' e g1 g2 g3 g4 g5 ⟨p, ys, rfl, fresh B2 p e hb2 (hF p ((hM p).mpr rfl)) hne, hb2, h3, hxx⟩ hT
theorem cal_Di {P : Program} {mg : Str → Option Value} {base : Heap} {x : Str} {st : Stmt} {f : Addr} {fd : FuncData} {N ps : List Str} {k n : Nat} {pre : List PyData → Prop} {T : List PyData → Rt → Prop}
    (F : Fun K x x st f fd) (hm : mg x = some (.ref f)) (hb : Binds K fd ps []) (S : FnScope N ps (defScope st)) (hn : ps.length = n + 1 := by rfl)
    (hbody : ∀ (cdv : Value) (A : Around) (outer : List Env) (s : Shared) (H : Hp) (E : XK), Room k (A.deeper (envOfC x (defScope st) s.heap.objs.size f cdv)) →
      ∃ t, PSs (cxOf CX0 P w K mg base N x (defScope st) f cdv A outer s H E).nox (defBody st) t ∧ ∀ d ds, ds.length = n → pre ds → ExS K t { nx := fun δ2 => T ds (.d .none) ∧ δ2[0]? = some (.ow (RDi d)), rt := fun s δ2 => RtS K (T ds) s δ2 ∧ δ2[0]? = some (.ow (RDi d)) ∧ s ≠ .al 0 } (.ow (RDi d) :: (ds.map Slot.pu ++ List.replicate (N.length - (ds.length + 1)) Slot.non))) : Cal P w K mg base (k + 1) x (spDi K n pre T) := by
  refine ⟨f, fd, ps, F.ok S (fun vs H Q E h => by rw [spDi_len h, hn]) (fun cdv A outer s H vs Q E hr h => ?_), hm, F.kp, hb⟩
  obtain ⟨t, ht, hx⟩ := hbody cdv A outer s H E hr
  exact ⟨t, ht, body_Di h hx⟩
end
end Dl

namespace Dl
open PySem PySem.Spec PyProof.Rows L2
open Evl (Ex)
/-! ### dicts with int keys at names -/
inductive KvAll (K : PySem.W.Frag) (B : Hp) : List (Key × V) → List (Int × PyData) → Prop
  | nil : KvAll K B [] []
  | cons {i : Int} {v : V} {d : PyData} {xs : List (Key × V)} {kvs : List (Int × PyData)} : Dp K B v d → KvAll K B xs kvs → KvAll K B ((Sum.inl i, v) :: xs) ((i, d) :: kvs)
def lookI (kvs : List (Int × PyData)) (k : Int) : Option PyData := (kvs.find? fun kv => decide (kv.1 = k)).map (·.2)
def putI (kvs : List (Int × PyData)) (k : Int) (d : PyData) : List (Int × PyData) :=
  if (kvs.any fun kv => decide (kv.1 = k)) = true then kvs.map (fun kv => if kv.1 = k then (kv.1, d) else kv) else kvs ++ [(k, d)]
section
variable {K : PySem.W.Frag} {B B' : Hp}
theorem kva_mono (e : Ex B B') : ∀ {xs : List (Key × V)} {kvs : List (Int × PyData)}, KvAll K B xs kvs → KvAll K B' xs kvs
  | _, _, .nil => .nil
  | _, _, .cons h t => .cons (dp_mono e _ _ h) (kva_mono e t)
theorem kva_len : ∀ {xs : List (Key × V)} {kvs : List (Int × PyData)}, KvAll K B xs kvs → xs.length = kvs.length
  | _, _, .nil => rfl
  | _, _, .cons _ t => by simp [kva_len t]
theorem key_inl (i k : Int) : decide ((Sum.inl i : Key) = Sum.inl k) = decide (i = k) := by
  by_cases e : i = k
  · subst e; simp
  · have h : ¬ (Sum.inl i : Key) = Sum.inl k := fun z => e (Sum.inl.inj z)
    simp [e, h]
theorem kva_look {k : Int} : ∀ {xs : List (Key × V)} {kvs : List (Int × PyData)}, KvAll K B xs kvs → (lookI kvs k = none ∧ valV xs (Sum.inl k) = none) ∨ ∃ d v, lookI kvs k = some d ∧ valV xs (Sum.inl k) = some v ∧ Dp K B v d
  | _, _, .nil => .inl ⟨rfl, rfl⟩
  | _, _, @KvAll.cons _ _ i v d xs kvs h t => by
    by_cases e : i = k
    · subst e
      refine .inr ⟨d, v, ?_, valV_pos rfl, h⟩
      simp [lookI, List.find?_cons]
    · have e1 : lookI ((i, d) :: kvs) k = lookI kvs k := by simp [lookI, List.find?_cons, e]
      have e2 : valV ((Sum.inl i, v) :: xs) (Sum.inl k : Key) = valV xs (Sum.inl k) := valV_neg fun z => e (Sum.inl.inj z)
      rw [e1, e2]
      exact kva_look t
theorem kva_any {k : Int} : ∀ {xs : List (Key × V)} {kvs : List (Int × PyData)}, KvAll K B xs kvs → (xs.any fun kv => decide (kv.1 = (Sum.inl k : Key))) = (kvs.any fun kv => decide (kv.1 = k))
  | _, _, .nil => rfl
  | _, _, @KvAll.cons _ _ i v d xs kvs h t => by
    rw [List.any_cons, List.any_cons, kva_any t]
    show (decide ((Sum.inl i : Key) = Sum.inl k) || _) = _
    rw [key_inl]
theorem kva_app : ∀ {xs ys : List (Key × V)} {kvs lvs : List (Int × PyData)}, KvAll K B xs kvs → KvAll K B ys lvs → KvAll K B (xs ++ ys) (kvs ++ lvs)
  | _, _, _, _, .nil, s => s
  | _, _, _, _, .cons r t, s => .cons r (kva_app t s)
theorem kva_map {k : Int} {v : V} {d : PyData} (hd : Dp K B v d) : ∀ {xs : List (Key × V)} {kvs : List (Int × PyData)}, KvAll K B xs kvs → KvAll K B (xs.map fun kv => if kv.1 = (Sum.inl k : Key) then (kv.1, v) else kv) (kvs.map fun kv => if kv.1 = k then (kv.1, d) else kv)
  | _, _, .nil => .nil
  | _, _, @KvAll.cons _ _ i v' d' xs kvs h t => by
    rw [List.map_cons, List.map_cons]
    by_cases e : i = k
    · subst e
      rw [if_pos rfl, if_pos rfl]
      exact .cons hd (kva_map hd t)
    · rw [if_neg e, if_neg (fun z => e (Sum.inl.inj z))]
      exact .cons h (kva_map hd t)
theorem kva_put {k : Int} {v : V} {d : PyData} (hd : Dp K B v d) {xs : List (Key × V)} {kvs : List (Int × PyData)} (h : KvAll K B xs kvs) : KvAll K B (putK xs (Sum.inl k) v) (putI kvs k d) := by
  unfold putK putI
  rw [kva_any h]
  split
  · exact kva_map hd h
  · exact kva_app h (.cons hd .nil)
end
/-- a dict with int keys, owned -/
def RDk (K : PySem.W.Frag) (kvs : List (Int × PyData)) : Res where
  P v B H M := ∃ p xs, v = .ref p ∧ H p = some (.dK xs) ∧ KvAll K B xs kvs ∧ ∀ a, M a ↔ a = p
  loc := by
    rintro v B H B' H' M ⟨p, xs, rfl, hp, hd, hM⟩ e k
    exact ⟨p, xs, rfl, by rw [k p ((hM p).mpr rfl)]; exact hp, kva_mono e hd, hM⟩
  live := by
    rintro v B H M ⟨p, xs, rfl, hp, hd, hM⟩ a ha
    rw [(hM a).mp ha, hp]
    exact fun z => nomatch z
section
variable {K : PySem.W.Frag} {w : World} {δ : List Slot} {te ta tb tc : TE} {tr : TA} {tt : TT} {t u : TS} {d : Dn} {Φ : Slot → List Slot → Prop}
theorem ev_dnew (h : Φ (.ow (RDk K [])) δ) : EvS K tDNewK δ Φ := fun B H σ F Q S k p hp =>
  k (.ref p) (fun a => a = p) (.ow (RDk K [])) B _ δ (Ex.refl _) (fun a z => upd_ne fun e => S.fl a z (by rw [e]; exact hp)) (sd_own S hp) ⟨p, [], rfl, upd_same, .nil, fun _ => Iff.rfl⟩ (fun a z f => S.fl a f (by rw [z]; exact hp)) h
theorem dk_at {B H : Hp} {σ : L2.St} {F : Addr → Prop} {j : Nat} {kvs : List (Int × PyData)} (S : Sd K B H σ δ F) (hj : δ[j]? = some (.ow (RDk K kvs))) : ∃ p xs, σ[j]? = some (some (.ref p)) ∧ H p = some (.dK xs) ∧ KvAll K B xs kvs := by
  obtain ⟨v, M, ev, ⟨p, xs, rfl, hp, ha, _⟩, _⟩ := S.opn hj
  exact ⟨p, xs, ev, hp, ha⟩
theorem ev_dnotin {j : Nat} (h : EvS K te δ fun s δ1 => ∃ (i : Int) (kvs : List (Int × PyData)), s = .pu (.int i) ∧ δ1[j]? = some (.ow (RDk K kvs)) ∧ Φ (.pu (.bool (!(lookI kvs i).isSome))) δ1) : EvS K (tDNotIn te (tVar j)) δ Φ := fun B H σ F Q S k =>
  h B H σ F _ S fun v M s B1 H1 δ1 e1 f1 S1 w1 n1 ⟨i, kvs, es, hj, q⟩ => by
    subst es
    have S1' : Sd K B1 H1 σ δ1 F := S1.less fun a z => .inl z
    obtain ⟨p, xs, ev, hp, ha⟩ := dk_at S1' hj
    refine ⟨_, ev, p, valV xs (Sum.inl i), rfl, by rw [dp_int_inv w1.1]; exact DGet.k (k := Sum.inl i) hp, ?_⟩
    have e : (valV xs (Sum.inl i)).isSome = (lookI kvs i).isSome := by
      rcases kva_look (k := i) ha with ⟨a, b⟩ | ⟨_, _, a, b, _⟩ <;> rw [a, b] <;> rfl
    rw [e]
    exact k _ (fun _ => False) (.pu (.bool _)) B1 H1 δ1 e1 f1 (S1'.less fun a z => z.elim id False.elim) ⟨.bl _, fun _ z => z⟩ (fun _ z => z.elim) q
theorem ev_dget {j : Nat} (h : ∃ kvs0, δ[j]? = some (.ow (RDk K kvs0)) ∧ EvS K te δ fun s δ1 => ∃ (i : Int) (kvs : List (Int × PyData)) (x : PyData), s = .pu (.int i) ∧ δ1[j]? = some (.ow (RDk K kvs)) ∧ lookI kvs i = some x ∧ Φ (.pu x) δ1) : EvS K (tDGet (tVar j) te) δ Φ := fun B H σ F Q S k => by
  obtain ⟨kvs0, h0, h⟩ := h
  obtain ⟨p0, xs0, ev0, _, _⟩ := dk_at S h0
  refine ⟨_, ev0, h B H σ F _ S fun v M s B1 H1 δ1 e1 f1 S1 w1 n1 ⟨i, kvs, x, es, hj, hx, q⟩ => ?_⟩
  subst es
  have S1' : Sd K B1 H1 σ δ1 F := S1.less fun a z => .inl z
  obtain ⟨p, xs, ev, hp, ha⟩ := dk_at S1' hj
  rw [ev0] at ev
  cases ev
  rcases kva_look (k := i) ha with ⟨a, b⟩ | ⟨y, u, a, b, hd⟩
  · rw [hx] at a; cases a
  · rw [hx] at a
    cases a
    refine ⟨p0, u, rfl, by rw [dp_int_inv w1.1, ← b]; exact DGet.k (k := Sum.inl i) hp, ?_⟩
    exact k u (fun _ => False) (.pu x) B1 H1 δ1 e1 f1 (S1'.less fun a z => z.elim id False.elim) ⟨hd, fun _ z => z⟩ (fun _ z => z.elim) q
theorem xs_dput {j : Nat} (h : EvD K te δ fun x δ1 => ∃ kvs0, δ1[j]? = some (.ow (RDk K kvs0)) ∧ EvS K tb δ1 fun s δ2 => ∃ (i : Int) (kvs : List (Int × PyData)), s = .pu (.int i) ∧ δ2[j]? = some (.ow (RDk K kvs)) ∧ kvs.length < 100000 ∧ d.nx (δ2.set j (.ow (RDk K (putI kvs i x))))) : ExS K (sDPut (tVar j) tb te) d δ := fun B H σ F D S L =>
  h B H σ F _ S fun v x B1 H1 δ1 e1 f1 S1 hd ⟨kvs0, h0, p⟩ => by
    obtain ⟨p0, xs0, ev0, _, _⟩ := dk_at S1 h0
    refine ⟨_, ev0, p B1 H1 σ F _ S1 fun u M s B2 H2 δ2 e2 f2 S2 w2 n2 ⟨i, kvs, es, hj, hl, q⟩ => ?_⟩
    subst es
    have S2' : Sd K B2 H2 σ δ2 F := S2.less fun a z => .inl z
    obtain ⟨vv, MM, ev, ⟨pp, xs, rfl, hp, ha, hM⟩, hb, hF, op⟩ := S2'.opn hj
    rw [ev0] at ev
    cases ev
    have hbp : B2 p0 = none := hb p0 ((hM p0).mpr rfl)
    refine ⟨p0, _, rfl, by rw [dp_int_inv w2.1]; exact DPut.k (k := Sum.inl i) hp (Evl.sz_lt (by rw [kva_len ha]; exact hl)), ?_⟩
    have q2 := op B2 (upd H2 p0 (.dK (putK xs (Sum.inl i) v))) (some (.ref p0)) (.ow (RDk K (putI kvs i x))) (fun a => a = p0) (Ex.refl _) (fun a u ha' => by
      rw [upd_ne (fun e => by rw [e, hbp] at ha'; cases ha')]
      exact S2'.bh a u ha') (fun a o ha' nm => by rw [upd_ne (fun e => nm ((hM a).mpr e))]; exact ha') (fun _ _ z => .inl z)
      ⟨_, rfl, ⟨p0, _, rfl, upd_same, kva_put (dp_mono e2 _ _ hd) ha, fun _ => Iff.rfl⟩, fun a z => by rw [z]; exact hbp⟩ (fun a z => .inl ((hM a).mpr z))
    rw [set_self ev0] at q2
    exact L.nx B2 _ σ _ (e1.trans e2) (fun a z => by rw [upd_ne (fun e => hF a ((hM a).mpr e) z), f2 a z, f1 a z]) q2 q
/-! ### freshly rolled draws -/
theorem xs_dice {j : Nat} {xs : List Int} (hj : δ[j]? = some (.ow (RL K (xs.map PyData.int)))) (ok : DiceOk xs) (h : ∀ a, ExS K t d (δ.set j (.ow (RDi a)))) : ExS K t d δ := fun B H σ F D S L => by
  obtain ⟨v, M, ev, ⟨p, ys, rfl, hp, ha, hM⟩, hb, hF, op⟩ := S.opn hj
  rw [dpa_ints_inv ha] at hp
  have q := op B H (some (.ref p)) (.ow (RDi p)) M (Ex.refl _) S.bh (fun _ _ h _ => h) (fun _ _ h => .inl h) ⟨_, rfl, ⟨rfl, ⟨xs, ok, hp⟩, hM⟩, hb⟩ (fun a z => .inl z)
  rw [set_self ev] at q
  exact h p B H σ F D q L
end
end Dl

namespace Dl
open PySem PySem.Spec PyProof.Rows L2
open Evl (Ex)
section
variable {K : PySem.W.Frag} {w : World} {δ : List Slot} {te ta tb tc : TE} {tr : TA} {tt : TT} {t u : TS} {d : Dn} {Φ : Slot → List Slot → Prop}
theorem ev_eqX (h : EvS K ta δ fun s1 δ1 => EvS K tb δ1 fun s2 δ2 => (∃ i j : Int, s1 = .pu (.int i) ∧ s2 = .pu (.int j) ∧ Φ (.pu (.bool (decide (i = j)))) δ2) ∨ (∃ i j : Str, s1 = .pu (.str i) ∧ s2 = .pu (.str j) ∧ Φ (.pu (.bool (decide (i = j)))) δ2) ∨ ∃ x y, s1 = .pu x ∧ s2 = .pu y ∧ scF x y = true ∧ Φ (.pu (.bool (eqF x y))) δ2) : EvS K (tOp rEq ta tb) δ Φ :=
  ev_eq (h.imp fun s1 δ1 h1 => h1.imp fun s2 δ2 h2 => by
    rcases h2 with ⟨i, j, e1, e2, q⟩ | ⟨i, j, e1, e2, q⟩ | ⟨x, y, e1, e2, c, q⟩
    · exact ⟨_, _, e1, e2, rfl, by rw [eqF_int]; exact q⟩
    · exact ⟨_, _, e1, e2, rfl, by rw [eqF_str]; exact q⟩
    · exact ⟨x, y, e1, e2, c, q⟩)
theorem ev_neX (h : EvS K ta δ fun s1 δ1 => EvS K tb δ1 fun s2 δ2 => (∃ i j : Int, s1 = .pu (.int i) ∧ s2 = .pu (.int j) ∧ Φ (.pu (.bool (!decide (i = j)))) δ2) ∨ (∃ i j : Str, s1 = .pu (.str i) ∧ s2 = .pu (.str j) ∧ Φ (.pu (.bool (!decide (i = j)))) δ2) ∨ ∃ x y, s1 = .pu x ∧ s2 = .pu y ∧ scF x y = true ∧ Φ (.pu (.bool (!eqF x y))) δ2) : EvS K (tOp rNe ta tb) δ Φ :=
  ev_ne (h.imp fun s1 δ1 h1 => h1.imp fun s2 δ2 h2 => by
    rcases h2 with ⟨i, j, e1, e2, q⟩ | ⟨i, j, e1, e2, q⟩ | ⟨x, y, e1, e2, c, q⟩
    · exact ⟨_, _, e1, e2, rfl, by rw [eqF_int]; exact q⟩
    · exact ⟨_, _, e1, e2, rfl, by rw [eqF_str]; exact q⟩
    · exact ⟨x, y, e1, e2, c, q⟩)
theorem ev_inX {neg : Bool} (h : EvS K ta δ fun s1 δ1 => EvS K tb δ1 fun s2 δ2 => (∃ (i : Int) (ns : List Int), s1 = .pu (.int i) ∧ (den K δ2 s2 (.list (ns.map PyData.int)) ∨ den K δ2 s2 (.tuple (ns.map PyData.int))) ∧ Φ (.pu (.bool (if neg then !decide (i ∈ ns) else decide (i ∈ ns)))) δ2) ∨
    (∃ (i : Str) (ns : List Str), s1 = .pu (.str i) ∧ (den K δ2 s2 (.list (ns.map PyData.str)) ∨ den K δ2 s2 (.tuple (ns.map PyData.str))) ∧ Φ (.pu (.bool (if neg then !decide (i ∈ ns) else decide (i ∈ ns)))) δ2) ∨
    ∃ x ds, s1 = .pu x ∧ (den K δ2 s2 (.list ds) ∨ den K δ2 s2 (.tuple ds)) ∧ flatD x = true ∧ ds.all flatD = true ∧ Φ (.pu (.bool (if neg then !memD x ds else memD x ds))) δ2) : EvS K (tOp (rIn K neg) ta tb) δ Φ :=
  ev_in (h.imp fun s1 δ1 h1 => h1.imp fun s2 δ2 h2 => by
    rcases h2 with ⟨i, ns, e1, e2, q⟩ | ⟨i, ns, e1, e2, q⟩ | ⟨x, y, e1, e2, c, c2, q⟩
    · exact ⟨_, _, e1, e2, rfl, all_ints ns, by rw [memD_int]; exact q⟩
    · exact ⟨_, _, e1, e2, rfl, all_strs ns, by rw [memD_str]; exact q⟩
    · exact ⟨x, y, e1, e2, c, c2, q⟩)
/-- xs != [], xs == [] -/
theorem eqv_nil (ds : List PyData) : PyData.eqv (.list ds) (.list []) = ds.isEmpty := by
  cases ds <;> simp [PyData.eqv, PyData.eqvAll]
theorem eqvT_nil (ds : List PyData) : PyData.eqv (.tuple ds) (.tuple []) = ds.isEmpty := by
  cases ds <;> simp [PyData.eqv, PyData.eqvAll]
theorem shaped_nil : SeqAt.shaped (.list []) = true := by decide +kernel
theorem shapedT_nil : SeqAt.shaped (.tuple []) = true := by decide +kernel
theorem ev_nilD (h : Φ (.ow (RL K [])) δ) : EvS K (tLst tNil) δ Φ := ev_lst (eds_nil ⟨Nat.zero_le _, h⟩)
theorem ev_neNil (h : EvS K ta δ fun s δ1 => ∃ ds, den K δ1 s (.list ds) ∧ SeqAt.shaped (.list ds) = true ∧ Φ (.pu (.bool (!ds.isEmpty))) δ1) : EvS K (tOp (rNeD K) ta (tLst tNil)) δ Φ :=
  ev_neD (h.imp fun s δ1 ⟨ds, h1, h2, q⟩ => ev_nilD ⟨_, _, h1, den_ow, h2, shaped_nil, by rw [eqv_nil]; exact q⟩)
theorem ev_eqNil (h : EvS K ta δ fun s δ1 => ∃ ds, den K δ1 s (.list ds) ∧ SeqAt.shaped (.list ds) = true ∧ Φ (.pu (.bool ds.isEmpty)) δ1) : EvS K (tOp (rEqD K) ta (tLst tNil)) δ Φ :=
  ev_eqD (h.imp fun s δ1 ⟨ds, h1, h2, q⟩ => ev_nilD ⟨_, _, h1, den_ow, h2, shaped_nil, by rw [eqv_nil]; exact q⟩)
end
/-! ### shapes -/
/-! ### a def as the head gives it -/
structure Df (K : PySem.W.Frag) (mg : Str → Option Value) (x : Str) (st : Stmt) (ps : List Str) : Prop where
  ex : ∃ f fd, Fun K x x st f fd ∧ mg x = some (.ref f) ∧ Binds K fd ps []
section
variable {P : Program} {w : World} {K : PySem.W.Frag} {mg : Str → Option Value} {base : Heap} {x : Str} {st : Stmt} {N ps : List Str} {k n : Nat} {pre : List PyData → Prop} {T : List PyData → Rt → Prop}
theorem calP (D : Df K mg x st ps) (S : FnScope N ps (defScope st)) (hn : ps.length = n)
    (hbody : ∀ (f : Addr) (cdv : Value) (A : Around) (outer : List Env) (s : Shared) (H : Hp) (E : XK), Room k (A.deeper (envOfC x (defScope st) s.heap.objs.size f cdv)) →
      ∃ t, PSs (cxOf CX0 P w K mg base N x (defScope st) f cdv A outer s H E).nox (defBody st) t ∧ ∀ ds, ds.length = n → pre ds → ExS K t { nx := fun _ => T ds (.d .none), rt := RtS K (T ds) } (ds.map Slot.pu ++ List.replicate (N.length - ds.length) Slot.non)) : Cal P w K mg base (k + 1) x (spP K n pre T) := by
  obtain ⟨f, fd, F, hm, hb⟩ := D.ex
  exact cal_P F hm hb S hn (hbody f)
theorem calDi (D : Df K mg x st ps) (S : FnScope N ps (defScope st)) (hn : ps.length = n + 1)
    (hbody : ∀ (f : Addr) (cdv : Value) (A : Around) (outer : List Env) (s : Shared) (H : Hp) (E : XK), Room k (A.deeper (envOfC x (defScope st) s.heap.objs.size f cdv)) →
      ∃ t, PSs (cxOf CX0 P w K mg base N x (defScope st) f cdv A outer s H E).nox (defBody st) t ∧ ∀ d ds, ds.length = n → pre ds → ExS K t { nx := fun δ2 => T ds (.d .none) ∧ δ2[0]? = some (.ow (RDi d)), rt := fun s δ2 => RtS K (T ds) s δ2 ∧ δ2[0]? = some (.ow (RDi d)) ∧ s ≠ .al 0 } (.ow (RDi d) :: (ds.map Slot.pu ++ List.replicate (N.length - (ds.length + 1)) Slot.non))) : Cal P w K mg base (k + 1) x (spDi K n pre T) := by
  obtain ⟨f, fd, F, hm, hb⟩ := D.ex
  exact cal_Di F hm hb S hn (hbody f)
end
/-! ### built-in names are the built-ins -/
structure Bn (mg : Str → Option Value) : Prop where
  len : mg "len" = none
  range : mg "range" = none
  sorted : mg "sorted" = none
  set_ : mg "set" = none
  isinstance : mg "isinstance" = none
  enumerate : mg "enumerate" = none
  list : mg "list" = none
  tuple : mg "tuple" = none
  abs : mg "abs" = none
  min : mg "min" = none
  max : mg "max" = none
  int : mg "int" = none
  str : mg "str" = none
  bool : mg "bool" = none
  dict : mg "dict" = none
  all : mg "all" = none
  sum : mg "sum" = none
end Dl

namespace Dl
open PySem PySem.Spec PyProof.Rows L2
open Evl (Ex)
/-- a slot that may be wiped -/
def Junk (s : Slot) : Prop := s = .non ∨ ∃ d, s = .pu d
theorem junk_non : Junk .non := .inl rfl
theorem junk_pu {d : PyData} : Junk (.pu d) := .inr ⟨d, rfl⟩
theorem wip1 {δ : List Slot} {j : Nat} {x : Slot} (h : δ[j]? = some x) (hx : Junk x) : Wip δ [j] := fun i hi s hs => by
  rw [List.mem_singleton.mp hi, h] at hs
  cases hs
  exact hx
theorem wip2 {δ : List Slot} {j l : Nat} {x y : Slot} (h : δ[j]? = some x) (hx : Junk x) (h2 : δ[l]? = some y) (hy : Junk y) : Wip δ [j, l] := fun i hi s hs => by
  rcases List.mem_cons.mp hi with e | hi
  · rw [e, h] at hs
    cases hs
    exact hx
  · rw [List.mem_singleton.mp hi, h2] at hs
    cases hs
    exact hy
theorem wip3 {δ : List Slot} {j l m : Nat} {x y z : Slot} (h : δ[j]? = some x) (hx : Junk x) (h2 : δ[l]? = some y) (hy : Junk y) (h3 : δ[m]? = some z) (hz : Junk z) : Wip δ [j, l, m] := fun i hi s hs => by
  rcases List.mem_cons.mp hi with e | hi
  · rw [e, h] at hs
    cases hs
    exact hx
  · exact wip2 h2 hy h3 hz i hi s hs
section
variable {K : PySem.W.Frag} {w : World} {δ : List Slot} {te ta tb tc : TE} {tr : TA} {tt : TT} {t u : TS} {d : Dn} {Φ : Slot → List Slot → Prop}
theorem turnC1 {j : Nat} {x : PyData} {acc : List PyData} {Pn : List PyData → Prop} (hj : j < δ.length) (h : EvT K tt (δ.set j (.pu x)) fun b δ1 => δ1 = δ.set j (.pu x) ∧ if b = true then EvD K te δ1 fun y δ2 => δ2 = δ.set j (.pu x) ∧ acc.length < 100000 ∧ Pn (acc ++ [y]) else Pn acc) : TurnC K (gName j) tt te [j] δ x acc Pn := by
  have out : ∀ i, i ∉ [j] → (δ.set j (.pu x))[i]? = δ[i]? := fun i hi => List.getElem?_set_ne fun e => hi (by rw [e]; exact List.mem_singleton.mpr rfl)
  refine ⟨[(j, x)], tg_name, fun p hp => by rw [List.mem_singleton.mp hp]; exact ⟨hj, List.mem_singleton.mpr rfl⟩, ?_⟩
  have e : setD (wipeD δ [j]) [(j, x)] = δ.set j (.pu x) := by
    show ((δ.set j .non).set j (.pu x)) = _
    rw [List.set_set]
  rw [e]
  refine h.imp fun b δ1 ⟨e1, q⟩ => ?_
  subst e1
  refine ⟨out, ?_⟩
  cases b with
  | true =>
    rw [if_pos rfl] at q ⊢
    exact fun B H σ F Q S k => q B H σ F Q S fun v y B2 H2 δ2 a b c hd ⟨e2, r⟩ => k v y B2 H2 δ2 a b c hd ⟨by rw [e2]; exact out, r⟩
  | false =>
    rw [if_neg Bool.false_ne_true] at q ⊢
    exact q
/-- a turn that keeps or drops, by what stands there -/
def Turn1C (K : PySem.W.Frag) (tt : TT) (te : TE) (j : Nat) (δ : List Slot) (x : PyData) (p : Bool) (v : PyData) : Prop :=
  EvT K tt (δ.set j (.pu x)) fun b δ2 => δ2 = δ.set j (.pu x) ∧ b = p ∧ (p = true → EvD K te (δ.set j (.pu x)) fun y δ3 => δ3 = δ.set j (.pu x) ∧ y = v)
theorem filt_step {α : Type} {xs : List α} {p : α → Bool} {v : α → PyData} {i : Nat} {a : α} (ha : xs[i]? = some a) : ((xs.take (i + 1)).filter p).map v = if p a = true then ((xs.take i).filter p).map v ++ [v a] else ((xs.take i).filter p).map v := by
  rw [List.take_add_one, ha]
  show (((xs.take i) ++ [a]).filter p).map v = _
  rw [List.filter_append, List.map_append, List.filter_cons]
  by_cases h : p a = true
  · rw [if_pos h, if_pos h]; rfl
  · rw [if_neg h, if_neg h]; exact List.append_nil _
theorem turn_filt {α : Type} {j : Nat} {xs : List α} {g : α → PyData} {p : α → Bool} {v : α → PyData} {i : Nat} {a : α} (hj : j < δ.length) (hl : xs.length ≤ 100000) (ha : xs[i]? = some a) (h : Turn1C K tt te j δ (g a) (p a) (v a)) :
    TurnC K (gName j) tt te [j] δ (g a) (((xs.take i).filter p).map v) (fun acc => acc = ((xs.take (i + 1)).filter p).map v) := by
  refine turnC1 hj (h.imp fun b δ1 ⟨e1, eb, q⟩ => ⟨e1, ?_⟩)
  rw [filt_step ha, eb]
  have hi : i < xs.length := (List.getElem?_eq_some_iff.mp ha).1
  cases hp : p a with
  | true =>
    rw [if_pos rfl, if_pos rfl, e1]
    exact fun B H σ F Q S k => q hp B H σ F Q S fun v' y B2 H2 δ2 a1 b1 c1 hd ⟨e2, ey⟩ => k v' y B2 H2 δ2 a1 b1 c1 hd ⟨e2, by
      rw [List.length_map]
      have := List.length_filter_le p (xs.take i)
      have := List.length_take_le i xs
      omega, by rw [ey]⟩
  | false =>
    rw [if_neg Bool.false_ne_true, if_neg Bool.false_ne_true]
theorem ev_fL {α : Type} {j : Nat} {g : α → PyData} (p : α → Bool) (v : α → PyData) (h : EvS K ta δ fun s δ1 => ∃ xs : List α, den K δ1 s (.list (xs.map g)) ∧ Wip δ1 [j] ∧ j < δ1.length ∧ xs.length ≤ 100000 ∧ (∀ a ∈ xs, Turn1C K tt te j δ1 (g a) (p a) (v a)) ∧ Φ (.ow (RL K ((xs.filter p).map v))) δ1) : EvS K (tLc (iList K ta) (gName j) tt te [j]) δ Φ :=
  ev_lcL (h.imp fun s δ1 ⟨xs, hd, hw, hj, hl, ht, q⟩ => ⟨xs.map g, hd, hw, fun i acc => acc = ((xs.take i).filter p).map v, rfl, fun i y acc hy hacc => by
    subst hacc
    rw [List.getElem?_map] at hy
    cases ha : xs[i]? with
    | none => rw [ha] at hy; cases hy
    | some a =>
      rw [ha] at hy
      cases hy
      exact turn_filt hj hl ha (ht a (List.mem_of_getElem? ha)), fun acc hacc => by
    rw [List.length_map, List.take_length] at hacc
    rw [hacc]
    exact q⟩)
theorem ev_fT {α : Type} {j : Nat} {g : α → PyData} (p : α → Bool) (v : α → PyData) (h : EvS K ta δ fun s δ1 => ∃ xs : List α, s = .pu (.tuple (xs.map g)) ∧ Wip δ1 [j] ∧ j < δ1.length ∧ xs.length ≤ 100000 ∧ (∀ a ∈ xs, Turn1C K tt te j δ1 (g a) (p a) (v a)) ∧ Φ (.ow (RL K ((xs.filter p).map v))) δ1) : EvS K (tLc (iTup K ta) (gName j) tt te [j]) δ Φ :=
  ev_lcT (h.imp fun s δ1 ⟨xs, hd, hw, hj, hl, ht, q⟩ => ⟨xs.map g, hd, hw, fun i acc => acc = ((xs.take i).filter p).map v, rfl, fun i y acc hy hacc => by
    subst hacc
    rw [List.getElem?_map] at hy
    cases ha : xs[i]? with
    | none => rw [ha] at hy; cases hy
    | some a =>
      rw [ha] at hy
      cases hy
      exact turn_filt hj hl ha (ht a (List.mem_of_getElem? ha)), fun acc hacc => by
    rw [List.length_map, List.take_length] at hacc
    rw [hacc]
    exact q⟩)
theorem ev_fR {j : Nat} (p : Nat → Bool) (v : Nat → PyData) (h : EvS K ta δ fun s δ1 => ∃ k : Nat, s = .pu (.int (k : Int)) ∧ Wip δ1 [j] ∧ j < δ1.length ∧ k ≤ 100000 ∧ (∀ a : Nat, a < k → Turn1C K tt te j δ1 (.int (a : Int)) (p a) (v a)) ∧ Φ (.ow (RL K (((List.range k).filter p).map v))) δ1) : EvS K (tLc (iRng1 (tCons ta tNil)) (gName j) tt te [j]) δ Φ :=
  ev_lcR1 (h.imp fun s δ1 ⟨k, hs, hw, hj, hl, ht, q⟩ => ⟨(k : Int), hs, by omega, by omega, hw, fun i acc => acc = (((List.range k).take i).filter p).map v, rfl, fun i acc hi hacc => by
    subst hacc
    have hi' : i < k := by omega
    have ha : (List.range k)[i]? = some i := by rw [List.getElem?_range hi']
    exact turn_filt (g := fun a : Nat => PyData.int (a : Int)) hj (by rw [List.length_range]; exact hl) ha (ht i hi'), fun acc hacc => by
    have e : ((k : Int)).toNat = (List.range k).length := by rw [List.length_range]; omega
    rw [e, List.take_length] at hacc
    rw [hacc]
    exact q⟩)
theorem ev_catS (h : EvS K ta δ fun s1 δ1 => EvS K tb δ1 fun s2 δ2 => ∃ ds es, den K δ2 s1 (.list ds) ∧ den K δ2 s2 (.list es) ∧ ds.length + es.length ≤ 100000 ∧ Φ (.ow (RL K (ds ++ es))) δ2) : EvS K (tOp (Rk.rCatS K) ta tb) δ Φ :=
  ev_opL (h.imp fun s1 δ1 h1 => h1.imp fun s2 δ2 ⟨ds, es, d1, d2, hl, q⟩ => ⟨_, _, _, d1, d2, fun B H u v Q e a b k => by
    obtain ⟨p, xs, rfl, hs, ha⟩ := a.lst e
    obtain ⟨p2, ys, rfl, hs2, ha2⟩ := b.lst e
    exact ⟨p, p2, xs, ys, rfl, rfl, hs, hs2, Evl.sz_of (by rw [dpa_len ha, dpa_len ha2]; exact hl), fun r hr => k r _ hr (dpa_append ha ha2)⟩, q⟩)
theorem ifT {c : Bool} {A B : Prop} (h : c = true) (a : A) : if c = true then A else B := by rw [if_pos h]; exact a
theorem ifF {c : Bool} {A B : Prop} (h : c = false) (b : B) : if c = true then A else B := by rw [if_neg (by rw [h]; exact Bool.false_ne_true)]; exact b
theorem ifB {c : Bool} {A B : Prop} (a : c = true → A) (b : c = false → B) : if c = true then A else B := by
  cases c with
  | true => exact ifT rfl (a rfl)
  | false => exact ifF rfl (b rfl)
end
/-! ### shapes -/
def okD (n : Nat) (d : PyData) : Prop := d.canLay0 = true ∧ d.depth ≤ n
theorem okD.up {n m : Nat} {d : PyData} (h : okD n d) (l : n ≤ m) : okD m d := ⟨h.1, Nat.le_trans h.2 l⟩
theorem okD_int {i : Int} : okD 0 (.int i) := ⟨rfl, Nat.le_refl _⟩
theorem okD_bool {i : Bool} : okD 0 (.bool i) := ⟨rfl, Nat.le_refl _⟩
theorem okD_none : okD 0 .none := ⟨rfl, Nat.le_refl _⟩
theorem okD_all {n : Nat} : ∀ {ds : List PyData}, (∀ x ∈ ds, okD n x) → PyData.canLayAll0 ds = true ∧ PyData.depthAll ds ≤ n
  | [], _ => ⟨rfl, Nat.zero_le _⟩
  | x :: xs, h => by
    obtain ⟨a, b⟩ := okD_all (ds := xs) fun y hy => h y (List.mem_cons_of_mem _ hy)
    obtain ⟨c, e⟩ := h x (List.mem_cons_self ..)
    refine ⟨?_, ?_⟩
    · show (x.canLay0 && PyData.canLayAll0 xs) = true
      rw [c, a]; rfl
    · show max x.depth (PyData.depthAll xs) ≤ n
      exact Nat.max_le.mpr ⟨e, b⟩
theorem okD_list {n : Nat} {ds : List PyData} (h : ∀ x ∈ ds, okD n x) : okD (n + 1) (.list ds) := ⟨(okD_all h).1, Nat.succ_le_succ (okD_all h).2⟩
theorem okD_tuple {n : Nat} {ds : List PyData} (h : ∀ x ∈ ds, okD n x) : okD (n + 1) (.tuple ds) := ⟨(okD_all h).1, Nat.succ_le_succ (okD_all h).2⟩
theorem okD.shaped {n : Nat} {d : PyData} (h : okD n d) (l : n ≤ 64) : SeqAt.shaped d = true := by
  unfold SeqAt.shaped
  rw [h.1, Bool.true_and]
  exact decide_eq_true (Nat.le_trans h.2 l)
theorem okD_ints (ns : List Int) : okD 1 (.list (ns.map PyData.int)) := okD_list fun x hx => by
  obtain ⟨n, _, e⟩ := List.mem_map.mp hx
  rw [← e]
  exact okD_int
theorem shaped_ints (ns : List Int) : SeqAt.shaped (.list (ns.map PyData.int)) = true := (okD_ints ns).shaped (by decide)
theorem eqv_ints : ∀ ns ms : List Int, PyData.eqvAll (ns.map PyData.int) (ms.map PyData.int) = decide (ns = ms)
  | [], [] => by simp [PyData.eqvAll]
  | [], _ :: _ => by simp [PyData.eqvAll]
  | _ :: _, [] => by simp [PyData.eqvAll]
  | n :: ns, m :: ms => by
    have e : PyData.eqvAll ((n :: ns).map PyData.int) ((m :: ms).map PyData.int) = (n == m && PyData.eqvAll (ns.map PyData.int) (ms.map PyData.int)) := by
      simp [PyData.eqvAll, PyData.eqv]
    rw [e, eqv_ints ns ms]
    by_cases h : n = m
    · subst h; by_cases h2 : ns = ms <;> simp [h2]
    · simp [h]
theorem eqvL_ints (ns ms : List Int) : PyData.eqv (.list (ns.map PyData.int)) (.list (ms.map PyData.int)) = decide (ns = ms) := by
  rw [← eqv_ints]
  simp [PyData.eqv]
/-- two rising lists of one content are one -/
theorem rising_unique : ∀ {xs ys : List Int}, xs.Pairwise (· < ·) → ys.Pairwise (· < ·) → (∀ k, k ∈ xs ↔ k ∈ ys) → xs = ys
  | [], [], _, _, _ => rfl
  | [], y :: ys, _, _, h => absurd ((h y).mpr (List.mem_cons_self ..)) (by simp)
  | x :: xs, [], _, _, h => absurd ((h x).mp (List.mem_cons_self ..)) (by simp)
  | x :: xs, y :: ys, hx, hy, h => by
    obtain ⟨h1, h2⟩ := List.pairwise_cons.mp hx
    obtain ⟨g1, g2⟩ := List.pairwise_cons.mp hy
    have e : x = y := by
      rcases List.mem_cons.mp ((h x).mp (List.mem_cons_self ..)) with z | z
      · exact z
      · rcases List.mem_cons.mp ((h y).mpr (List.mem_cons_self ..)) with z2 | z2
        · exact z2.symm
        · have a := g1 x z
          have b := h1 y z2
          omega
    subst e
    rw [rising_unique h2 g2 fun k => ⟨fun hk => ?_, fun hk => ?_⟩]
    · rcases List.mem_cons.mp ((h k).mp (List.mem_cons_of_mem _ hk)) with z | z
      · have := h1 k hk; omega
      · exact z
    · rcases List.mem_cons.mp ((h k).mpr (List.mem_cons_of_mem _ hk)) with z | z
      · have := g1 k hk; omega
      · exact z
end Dl

namespace Dl
open PySem PySem.Spec PyProof.Rows L2
open Evl (Ex)
/-- the draws at d, told outright -/
def RDl (d : Addr) (xs : List Int) : Res where
  P v B H M := v = .ref d ∧ H d = some (.lst (xs.map V.int)) ∧ ∀ a, M a ↔ a = d
  loc := by
    rintro v B H B' H' M ⟨rfl, hd, hM⟩ e k
    exact ⟨rfl, by rw [k d ((hM d).mpr rfl)]; exact hd, hM⟩
  live := by
    rintro v B H M ⟨rfl, hd, hM⟩ a ha
    rw [(hM a).mp ha, hd]
    exact fun z => nomatch z
section
variable {K : PySem.W.Frag} {w : World} {δ : List Slot} {te ta tb tc : TE} {tr : TA} {tt : TT} {t u : TS} {d : Dn} {Φ : Slot → List Slot → Prop} {B H : Hp} {σ : L2.St} {F : Addr → Prop}
theorem Sd.as {j : Nat} {R R' : Res} (S : Sd K B H σ δ F) (hj : δ[j]? = some (.ow R)) (h : ∀ v B H M, R.P v B H M → R'.P v B H M) : Sd K B H σ (δ.set j (.ow R')) F := by
  obtain ⟨v, M, ev, hP, hb, hF, op⟩ := S.opn hj
  have q := op B H (some v) (.ow R') M (Ex.refl _) S.bh (fun _ _ h _ => h) (fun _ _ h => .inl h) ⟨_, rfl, h v B H M hP, hb⟩ (fun a z => .inl z)
  rwa [set_self ev] at q
theorem ev_intB2 (h : EvS K ta δ fun s δ1 => ∃ b : Bool, s = .pu (.bool b) ∧ Φ (.pu (.int (if b then 1 else 0))) δ1) : EvS K (tCB (fun xs H Q => (∃ i, xs = [V.int i] ∧ Q (V.int i) H) ∨ ∃ k, xs = [V.bl k] ∧ Q (V.int (if k = true then 1 else 0)) H) (tCons ta tNil)) δ Φ := ev_intB h
def pOff (ds : List PyData) : Prop := ∃ k : Int, ds = [.int k] ∧ 0 < k ∧ k < 1073741824
def tOff (ds : List PyData) (r : Rt) : Prop := ∀ k : Int, ds = [.int k] → ∃ x : Nat, r = .d (.int (x : Int)) ∧ (x : Int) < k
/-- a draw -/
theorem ev_off {i : Nat} {a : Addr} (h0 : δ[i]? = some (.ow (RDi a))) (h : EvS K te δ fun s δ1 => δ1[i]? = some (.ow (RDi a)) ∧ ∃ k : Int, s = .pu (.int k) ∧ 0 < k ∧ k < 1073741824 ∧ ∀ x : Nat, (x : Int) < k → Φ (.pu (.int (x : Int))) δ1) : EvS K (tCall (spDi K 1 pOff tOff) [] E0 (tCons (tVar i) (tCons te tNil))) δ Φ :=
  ev_callD h0 (eds_cons (h.imp fun s δ1 ⟨hi, k, es, h1, h2, q⟩ => by
    subst es
    exact ⟨_, frz_pu, eds_nil ⟨hi, rfl, ⟨k, rfl, h1, h2⟩, fun r hr => by
      obtain ⟨x, rfl, hx⟩ := hr k rfl
      exact q x hx⟩⟩))
theorem ev_ixB (h : EvS K ta δ fun s1 δ1 => EvS K tb δ1 fun s2 δ2 => ∃ ds i d, (den K δ2 s1 (.list ds) ∨ s1 = .pu (.tuple ds)) ∧ s2 = .pu (.int i) ∧ atI ds i = some d ∧ Φ (.pu d) δ2) : EvS K (tOp (fun x y H Q => rIxL K x y H Q ∨ rIxT K x y H Q) ta tb) δ Φ :=
  ev_opP (h.imp fun s1 δ1 h1 => h1.imp fun s2 δ2 ⟨ds, i, d, e1, e2, hi, q⟩ => by
    rcases e1 with e1 | e1
    · exact ⟨.list ds, .int i, d, e1, .inl e2, fun B H u v Q e d1 d2 k => by
        obtain ⟨p, xs, rfl, hs, ha⟩ := d1.lst e
        obtain ⟨w, hw, hd⟩ := atI_dpa ha hi
        exact .inl ⟨p, xs, i, w, rfl, dr_int d2, hs, hw, k w B H (Gr.refl e) hd⟩, q⟩
    · exact ⟨.tuple ds, .int i, d, .inl e1, .inl e2, fun B H u v Q e d1 d2 k => by
        obtain ⟨p, xs, rfl, hs, ha⟩ := d1.tup e
        obtain ⟨w, hw, hd⟩ := atI_dpa ha hi
        exact .inr ⟨p, xs, i, w, rfl, dr_int d2, hs, hw, k w B H (Gr.refl e) hd⟩, q⟩)
theorem ixN_nat {n k : Nat} (h : k < n) : ixN n (k : Int) = some k := by
  unfold ixN
  rw [if_pos (by omega), if_pos (by omega)]
  simp
theorem xs_mid (I : List Slot → Prop) (h : ExS K t { d with nx := I } δ) (h2 : ∀ δ', I δ' → d.nx δ') : ExS K t d δ := fun B H σ F D S L =>
  h B H σ F D S ⟨fun B2 H2 σ2 δ2 e f S2 p => L.nx B2 H2 σ2 δ2 e f S2 (h2 δ2 p), L.bk, L.ct, L.rt, L.ex⟩
theorem xs_as {j : Nat} {R R' : Res} (hj : δ[j]? = some (.ow R)) (h : ∀ v B H M, R.P v B H M → R'.P v B H M) (hx : ExS K t d (δ.set j (.ow R'))) : ExS K t d δ := fun B H σ F D S L => hx B H σ F D (S.as hj h) L
theorem xs_dopen {j : Nat} {a : Addr} (hj : δ[j]? = some (.ow (RDi a))) (h : ∀ xs, DiceOk xs → ExS K t d (δ.set j (.ow (RDl a xs)))) : ExS K t d δ := fun B H σ F D S L => by
  obtain ⟨v, M, ev, ⟨rfl, ⟨xs, ok, hp⟩, hM⟩, hb, hF, op⟩ := S.opn hj
  have q := op B H (some (.ref a)) (.ow (RDl a xs)) M (Ex.refl _) S.bh (fun _ _ h _ => h) (fun _ _ h => .inl h) ⟨_, rfl, ⟨rfl, hp, hM⟩, hb⟩ (fun a z => .inl z)
  rw [set_self ev] at q
  exact h xs ok B H σ F D q L
theorem xs_dclose {j : Nat} {a : Addr} {xs : List Int} (hj : δ[j]? = some (.ow (RDl a xs))) (ok : DiceOk xs) (h : ExS K t d (δ.set j (.ow (RDi a)))) : ExS K t d δ :=
  xs_as (R := RDl a xs) (R' := RDi a) hj (fun v B H M ⟨e, hp, hM⟩ => ⟨e, ⟨xs, ok, hp⟩, hM⟩) h
theorem ev_dclose {j : Nat} {a : Addr} {xs : List Int} (hj : δ[j]? = some (.ow (RDl a xs))) (ok : DiceOk xs) (h : EvS K te (δ.set j (.ow (RDi a))) Φ) : EvS K te δ Φ := fun B H σ F Q S =>
  h B H σ F Q (S.as (R := RDl a xs) (R' := RDi a) hj (fun v B H M ⟨e, hp, hM⟩ => ⟨e, ⟨xs, ok, hp⟩, hM⟩))
theorem dl_at {j : Nat} {a : Addr} {xs : List Int} (S : Sd K B H σ δ F) (hj : δ[j]? = some (.ow (RDl a xs))) : σ[j]? = some (some (.ref a)) ∧ H a = some (.lst (xs.map V.int)) := by
  obtain ⟨v, M, ev, ⟨rfl, hp, hM⟩, _⟩ := S.opn hj
  exact ⟨ev, hp⟩
theorem atI_map {xs : List Int} {i x : Int} (h : atI xs i = some x) : atI (xs.map V.int) i = some (.int x) := by
  unfold atI at h ⊢
  rw [List.length_map]
  cases q : ixN xs.length i with
  | none => rw [q] at h; cases h
  | some k =>
    rw [q] at h
    show (xs.map V.int)[k]? = _
    rw [List.getElem?_map, show xs[k]? = some x from h]
    rfl
theorem ev_Dix {j : Nat} {a : Addr} {xs : List Int} {i x : Int} (hj : δ[j]? = some (.ow (RDl a xs))) (hx : atI xs i = some x) (q : Φ (.pu (.int x)) δ) : EvS K (tOp (rIxL K) (tVar j) (tC (.int i))) δ Φ := fun B H σ F Q S k => by
  obtain ⟨ev, hp⟩ := dl_at S hj
  exact ⟨_, ev, a, _, i, _, rfl, rfl, SqL.of hp, atI_map hx, k _ (fun _ => False) (.pu (.int x)) B H δ (Ex.refl _) (fun _ _ => rfl) (S.less fun a z => z.elim id False.elim) ⟨.int x, fun _ z => z⟩ (fun _ z => z.elim) q⟩
theorem ev_Dlen {j : Nat} {a : Addr} {xs : List Int} (hj : δ[j]? = some (.ow (RDl a xs))) (q : Φ (.pu (.int (xs.length : Int))) δ) : EvS K (tCB (fun xs H Q => ∃ p ys, xs = [.ref p] ∧ (SqL K H p ys ∨ SqT K H p ys) ∧ Q (.int ys.length) H) (tCons (tVar j) tNil)) δ Φ := fun B H σ F Q S k => by
  obtain ⟨ev, hp⟩ := dl_at S hj
  refine ⟨_, ev, a, _, rfl, .inl (SqL.of hp), ?_⟩
  rw [List.length_map]
  exact k _ (fun _ => False) (.pu (.int _)) B H δ (Ex.refl _) (fun _ _ => rfl) (S.less fun a z => z.elim id False.elim) ⟨.int _, fun _ z => z⟩ (fun _ z => z.elim) q
theorem Sd.dl {j : Nat} {a : Addr} {xs : List Int} (S : Sd K B H σ δ F) (hj : δ[j]? = some (.ow (RDl a xs))) (ys : List Int) : Sd K B (upd H a (.lst (ys.map V.int))) σ (δ.set j (.ow (RDl a ys))) F ∧ ∀ b, F b → upd H a (.lst (ys.map V.int)) b = H b := by
  obtain ⟨v, M, ev, ⟨rfl, hp, hM⟩, hb, hF, op⟩ := S.opn hj
  refine ⟨?_, fun b z => upd_ne fun e => hF b ((hM b).mpr e) z⟩
  have q2 := op B (upd H a (.lst (ys.map V.int))) (some (.ref a)) (.ow (RDl a ys)) M (Ex.refl _) (fun c u ha' => by
      rw [upd_ne (fun e => by rw [e, hb a ((hM a).mpr rfl)] at ha'; cases ha')]
      exact S.bh c u ha') (fun c o ha' nm => by rw [upd_ne (fun e => nm ((hM c).mpr e))]; exact ha') (fun _ _ z => .inl z)
      ⟨_, rfl, ⟨rfl, upd_same, hM⟩, hb⟩ (fun a z => .inl z)
  rwa [set_self ev] at q2
theorem er_map : ∀ (xs : List Int) (i : Nat), (xs.map V.int).eraseIdx i = (xs.eraseIdx i).map V.int
  | [], _ => rfl
  | _ :: _, 0 => rfl
  | x :: r, i + 1 => by
    show V.int x :: (r.map V.int).eraseIdx i = _
    rw [er_map r i]
    rfl
theorem ev_Dpop {j : Nat} {a : Addr} {xs : List Int} {i : Nat} {x : Int} (hj : δ[j]? = some (.ow (RDl a xs))) (hx : xs[i]? = some x) (hl : xs.length ≤ 100000) (q : Φ (.pu (.int x)) (δ.set j (.ow (RDl a (xs.eraseIdx i))))) : EvS K (tBM K "list" rPopAt (tVar j) (tCons (tC (.int (i : Int))) tNil)) δ Φ := fun B H σ F Q S k => by
  obtain ⟨ev, hp⟩ := dl_at S hj
  obtain ⟨S2, f2⟩ := S.dl hj (xs.eraseIdx i)
  have hil : i < xs.length := (List.getElem?_eq_some_iff.mp hx).1
  refine ⟨_, ev, .inl ⟨rfl, _, SqL.of hp⟩, a, _, (i : Int), i, .int x, rfl, rfl, hp, by omega, by omega, ?_, by rw [List.getElem?_map, hx]; rfl, ?_⟩
  · unfold seqIndex?
    have h1 : ¬ ((i : Int) < 0) := by omega
    simp [h1, hil]
  · rw [show (xs.map V.int).eraseIdx i = (xs.eraseIdx i).map V.int from er_map xs i]
    exact k _ (fun _ => False) (.pu (.int x)) B _ _ (Ex.refl _) f2 (S2.less fun a z => z.elim id False.elim) ⟨.int x, fun _ z => z⟩ (fun _ z => z.elim) q
theorem xs_Dset {j : Nat} {i : Int} (h : EvS K te δ fun s δ1 => ∃ (a : Addr) (xs : List Int) (x : Int) (k : Nat), s = .pu (.int x) ∧ δ1[j]? = some (.ow (RDl a xs)) ∧ ixN xs.length i = some k ∧ d.nx (δ1.set j (.ow (RDl a (xs.set k x))))) : ExS K (tAsg te (gSub (tVar j) (tC (.int i)) rSetL)) d δ := fun B H σ F D S L =>
  h B H σ F _ S fun v M s B2 H2 δ1 e f S2 w n ⟨a, xs, x, k, es, hj, hk, q⟩ => by
    subst es
    have S2' : Sd K B2 H2 σ δ1 F := S2.less fun a z => .inl z
    obtain ⟨ev, hp⟩ := dl_at S2' hj
    obtain ⟨S3, f3⟩ := S2'.dl hj (xs.set k x)
    refine ⟨_, ev, a, _, i, k, rfl, rfl, hp, by rw [List.length_map]; exact hk, ?_⟩
    rw [dp_int_inv w.1, show (xs.map V.int).set k (V.int x) = (xs.set k x).map V.int from (by rw [List.map_set])]
    exact L.nx B2 _ σ _ e (fun b z => (f3 b z).trans (f b z)) S3 q
end
/-! ### the law's own def -/
section
variable {P : Program} {w : World} {K : PySem.W.Frag} {mg : Str → Option Value} {base : Heap} {x : Str} {st : Stmt} {N ps : List Str} {k n : Nat} {f : Addr} {fd : FuncData}
theorem fnP {pre : List PyData → Prop} {T : List PyData → Rt → Prop} (F : Fun K x x st f fd) (S : FnScope N ps (defScope st)) (hn : ps.length = n)
    (hbody : ∀ (cdv : Value) (A : Around) (outer : List Env) (s : Shared) (H : Hp) (E : XK), Room k (A.deeper (envOfC x (defScope st) s.heap.objs.size f cdv)) →
      ∃ t, PSs (cxOf CX0 P w K mg base N x (defScope st) f cdv A outer s H E).nox (defBody st) t ∧ ∀ ds, ds.length = n → pre ds → ExS K t { nx := fun _ => T ds (.d .none), rt := RtS K (T ds) } (ds.map Slot.pu ++ List.replicate (N.length - ds.length) Slot.non)) : FnOk P w K mg base CX0 (k + 1) f fd ps (spP K n pre T) :=
  F.ok S (fun vs H Q E h => by rw [spP_len h, hn]) fun cdv A outer s H vs Q E hr h => by
    obtain ⟨t, ht, hx⟩ := hbody cdv A outer s H E hr
    exact ⟨t, ht, body_P h hx⟩
def pLaw (ds : List PyData) : Prop := ∃ ns : List Int, ds = [.list (ns.map PyData.int)] ∧ ns.length ≤ 63
def tLaw (_ : List PyData) (r : Rt) : Prop := r = .d (.bool true)
def spLaw (K : PySem.W.Frag) : Sp := fun vs H Q _ => ∃ (a : Addr) (ns : List Int), vs = [.ref a] ∧ SqL K H a (ns.map V.int) ∧ ns.length ≤ 63 ∧ ∀ H', Q (.bl true) H'
theorem fnLaw (h : FnOk P w K mg base CX0 k f fd ps (spP K 1 pLaw tLaw)) : FnOk P w K mg base CX0 k f fd ps (spLaw K) :=
  h.imp fun vs H Q E ⟨a, ns, e, hs, hl, q⟩ => ⟨H, [.list (ns.map PyData.int)], Ex.refl _, by rw [e]; exact .cons (.lst hs (dpa_ints ns)) .nil, rfl, ⟨ns, rfl, hl⟩, fun v B2 H2 r g ro hr => by
    cases (show r = .d (.bool true) from hr)
    rw [dp_bl_inv ro]
    exact q H2⟩
theorem df_of (F : Fun K x x st f fd) (hm : mg x = some (.ref f)) (b : Binds K fd ps []) : Df K mg x st ps := ⟨f, fd, F, hm, b⟩
/-- a tuple that the top has laid -/
theorem tup_K {b : Addr} {od : Option Addr} {its : Array Value} {n : Nat} {sl : Array (Option Value)} {xs : List V} {ds : List PyData} (h : K.lookup b = some ⟨.type "tuple", od, .seq its n, sl⟩) (hs : its.size ≤ sizeLine) (hv : Vals xs its.toList) (hd : ∀ B : Hp, DpAll K B xs ds) : ∀ B : Hp, Dp K B (.ref b) (.tuple ds) :=
  fun B => .tup (.inr ⟨_, its, n, h, rfl, rfl, hs, hv⟩) (hd B)
/-- a constant of the module -/
structure Cst (K : PySem.W.Frag) (mg : Str → Option Value) (x : Str) (d : PyData) : Prop where
  ex : ∃ v u, mg x = some u ∧ RelV v u ∧ ∀ B : Hp, Dp K B v d
theorem cst_int {i : Int} {t : Tok} (h : mg x = some (.int i t)) : Cst K mg x (.int i) := ⟨.int i, _, h, ⟨t, rfl⟩, fun _ => .int i⟩
theorem cst_str {i : Str} {t : Tok} (h : mg x = some (.str i t)) : Cst K mg x (.str i) := ⟨.str i, _, h, ⟨t, rfl⟩, fun _ => .str i⟩
theorem cst_tup {b : Addr} {ds : List PyData} (h : mg x = some (.ref b)) (hd : ∀ B : Hp, Dp K B (.ref b) (.tuple ds)) : Cst K mg x (.tuple ds) := ⟨.ref b, _, h, rfl, hd⟩
end
end Dl

/-! Rk4: rules whose reading names its frame outright, so that they stand inside a comprehension too. -/
namespace Kk
open PySem PySem.Spec PyProof.Rows L2
theorem hu {j : Nat} {A : Around} (hr : Room j A) : A.units + 1 < cLine := by
  have := hr.units
  omega
section
variable {X : Cx} {K : PySem.W.Frag} {w : World}
theorem ix_tup (h : X.K = K := by rfl) : IxR X (rIxT K) := h ▸ L2.ix_tup
theorem ix_list (h : X.K = K := by rfl) : IxR X (rIxL K) := h ▸ L2.ix_list
theorem ix_both (h : X.K = K := by rfl) : IxR X (fun x y H Q => rIxL K x y H Q ∨ rIxT K x y H Q) := by
  subst h
  intro ve sl pins s σ H x y v u Q I rx ry q hs
  rcases q with q | q
  · exact L2.ix_list ve sl pins s σ H x y v u Q I rx ry q hs
  · exact L2.ix_tup ve sl pins s σ H x y v u Q I rx ry q hs
theorem sl_list (h : X.K = K := by rfl) : SlR X (rSlL K) := h ▸ L2.sl_list
theorem sl_tupA (h : X.K = K := by rfl) : SlR X (rSlA K) := h ▸ L2.sl_tupA
theorem op_in_seq (h : X.K = K := by rfl) : OpR X (compareOp .In) (rIn K false) := h ▸ L2.op_in_seq
theorem op_notIn_seq (h : X.K = K := by rfl) : OpR X (compareOp .NotIn) (rIn K true) := h ▸ L2.op_notIn_seq
theorem op_eqD (a : X.A.units + 64 < cLine) (h : X.K = K := by rfl) : OpR X (compareOp .Eq) (rEqD K) := h ▸ L2.op_eqD a
theorem op_neD (a : X.A.units + 64 < cLine) (h : X.K = K := by rfl) : OpR X (compareOp .NotEq) (rNeD K) := h ▸ L2.op_neD a
theorem op_catA (h : X.K = K := by rfl) : OpR X (binaryOp .Add) (rCatA K) := h ▸ L2.op_catA
theorem op_repT (h : X.K = K := by rfl) : OpR X (binaryOp .Mult) (rRepT K) := h ▸ L2.op_repT
theorem op_catS (h : X.K = K := by rfl) : OpR X (binaryOp .Add) (Rk.rCatS K) := h ▸ Rk.op_catS
theorem call_isi (h : X.K = K := by rfl) : CallR X (.builtin "isinstance") (rIsi K) := h ▸ L2.call_isi
theorem call_len_seq (h : X.K = K := by rfl) : CallR X (.builtin "len") fun xs H Q => ∃ p ys, xs = [V.ref p] ∧ (SqL K H p ys ∨ SqT K H p ys) ∧ Q (V.int ↑ys.length) H := h ▸ L2.call_len_seq
theorem call_list_of (h : X.K = K := by rfl) : CallR X (.type "list") fun xs H Q => ∃ p ys, xs = [V.ref p] ∧ (SqL K H p ys ∨ SqT K H p ys) ∧ ∀ (l : Addr), H l = none → Q (V.ref l) (upd H l (HO.lst ys)) := h ▸ L2.call_list_of
theorem cr_sortedI (h : X.K = K := by rfl) : CallR X (.builtin "sorted") (rSortedI K) := h ▸ L2.cr_sortedI
theorem cr_max (a : X.calm = true) (h : X.K = K := by rfl) : CallR X (.builtin "max") (rMax K) := h ▸ L2.cr_max a
theorem cr_min (a : X.calm = true) (h : X.K = K := by rfl) : CallR X (.builtin "min") (rMin K) := h ▸ L2.cr_min a
theorem cr_sum (a : X.calm = true) (h : X.K = K := by rfl) : CallR X (.builtin "sum") (rSum K) := h ▸ L2.cr_sum a
theorem cr_all (a : X.calm = true) (h : X.K = K := by rfl) : CallR X (.builtin "all") (rAll K) := h ▸ L2.cr_all a
theorem cr_sortedSet (a : X.calm = true) (h : X.w = w := by rfl) : CallR X (.builtin "sorted") (rSortedSet w) := h ▸ L2.cr_sortedSet a
theorem cr_setI (a : X.calm = true) (h : X.K = K := by rfl) (hw : X.w = w := by rfl) : CallR X (.type "set") (Rk.rSetI K w) := by subst h; subst hw; exact Rk.cr_setI a
theorem mt_extendA (h : X.K = K := by rfl) : MtM X "list.extend" (Rk.rExtendA K) := h ▸ Rk.mt_extendA
theorem pi_list {tg l : Expr} {tl : TE} (a : PE X l tl) (h : X.K = K := by rfl) : PI X tg l (iList K tl) := h ▸ L2.pi_list a
theorem pi_tup {tg l : Expr} {tl : TE} (a : PE X l tl) (h : X.K = K := by rfl) : PI X tg l (iTup K tl) := h ▸ L2.pi_tup a
theorem pi_enum {e : Expr} {ta : TA} {p pos tpos : Pos} {elts : List Expr} {kk : Nat} (a : Gl X (Str.ofString "enumerate")) (b : X.mg (Str.ofString "enumerate") = none) (c : PA X [e] ta) (h : X.K = K := by rfl) (d : starEach [e] X.env = [(false, eval e X.env)] := by rfl) :
    PI X (.Tuple elts kk tpos) (.Call (.Name (Str.ofString "enumerate") p) [e] [] pos) (iEnum K ta) := h ▸ L2.pi_enum a b c d
theorem pi_enumT {e : Expr} {ta : TA} {p pos tpos : Pos} {elts : List Expr} {kk : Nat} (a : Gl X (Str.ofString "enumerate")) (b : X.mg (Str.ofString "enumerate") = none) (c : PA X [e] ta) (h : X.K = K := by rfl) (d : starEach [e] X.env = [(false, eval e X.env)] := by rfl) :
    PI X (.Tuple elts kk tpos) (.Call (.Name (Str.ofString "enumerate") p) [e] [] pos) (Rk.iEnumT K ta) := h ▸ Rk.pi_enumT a b c d
theorem pe_tupleOf {a : Expr} {ta : TE} {p pos : Pos} (g : Gl X (Str.ofString "tuple")) (b : X.mg (Str.ofString "tuple") = none) (c : PE X a ta) (h : X.K = K := by rfl) (d : starEach [a] X.env = (false, eval a X.env) :: starEach [] X.env := by rfl) :
    PE X (.Call (.Name (Str.ofString "tuple") p) [a] [] pos) (tThen ta (kTup K)) := h ▸ L2.pe_tupleOf g b c d
theorem pg_tup {pos : Pos} {es : List Expr} {k : Nat} {t : TGs} {n : Nat} (a : X.calm = true) (b : PGs X es t) (h : X.K = K := by rfl) (c : (assignEach es X.env).length = n := by rfl) (d : (assignEach es X.env).findIdx? (fun x => x.1) = none := by rfl) :
    PG X (.Tuple es k pos) (gTup K n t) := h ▸ L2.pg_tup a b c d
theorem pe_bm {o e : Expr} {es : List Expr} {to : TE} {t : TA} {name : Str} {apos cpos : Pos} {T id : String} {r : V → List V → Hp → VK → Prop} (h1 : PlainAttrs T) (h2 : Slot T name id) (h3 : typeOf (Value.builtin id) = pure (Value.type "method_descriptor")) (h4 : MtR X id r) (h5 : PE X o to) (h6 : PA X (e :: es) t)
    (h : X.K = K := by rfl)
    (a1 : attributeBase o name X.env (eval o X.env) = eval o X.env := by rfl)
    (a2 : ((((backTo cpos (starEach (e :: es) X.env)).all fun x => !x.fst) && (backToKw cpos (keywordEach [] X.env)).all fun x => x.fst.isSome) && decide (((e :: es).length + ([] : List Keyword).length + if ([] : List Keyword).isEmpty = true then 0 else 1) < 30)) = true := by rfl)
    (a3 : (apos.endLine == cpos.line) = true := by rfl) (a4 : starEach (e :: es) X.env = (false, eval e X.env) :: starEach es X.env := by rfl) (a5 : ((backTo cpos (starEach es X.env)).any fun x => x.fst) = false := by rfl) :
    PE X (.Call (.Attribute o name apos) (e :: es) [] cpos) (tBM K T r to t) := h ▸ L2.pe_bm h1 h2 h3 h4 h5 h6 a1 a2 a3 a4 a5
theorem pe_bm0 {o : Expr} {to : TE} {name : Str} {apos cpos : Pos} {T id : String} {r : V → List V → Hp → VK → Prop} (h1 : PlainAttrs T) (h2 : Slot T name id) (h3 : typeOf (Value.builtin id) = pure (Value.type "method_descriptor")) (h4 : MtR X id r) (h5 : PE X o to)
    (h : X.K = K := by rfl)
    (a1 : attributeBase o name X.env (eval o X.env) = eval o X.env := by rfl) (a3 : (apos.endLine == cpos.line) = true := by rfl) :
    PE X (.Call (.Attribute o name apos) [] [] cpos) (tBM0 K T r to) := h ▸ L2.pe_bm0 h1 h2 h3 h4 h5 a1 a3
end
end Kk

namespace Kk
open PySem PySem.Spec PyProof.Rows L2
theorem pe_join {X : Cx} {K : PySem.W.Frag} {o e : Expr} {to te : TE} {apos pos : Pos} (ho : PE X o to) (he : PE X e te) (h : X.K = K := by rfl) (hs : starEach [e] X.env = [(false, eval e X.env)] := by rfl) (hbase : attributeBase o "join" X.env (eval o X.env) = eval o X.env := by rfl) (hline : (apos.endLine == pos.line) = true := by rfl) :
    PE X (.Call (.Attribute o "join" apos) [e] [] pos) (tM1 (fun x xs H Q => ∃ a p, ∃ ys : List Str, x = .str a ∧ xs = [.ref p] ∧ (SqL K H p (ys.map V.str) ∨ SqT K H p (ys.map V.str)) ∧
      (ys.map (·.length)).sum + ys.length * a.length ≤ 16777216 ∧ Q (.str (Txt.join a ys)) H) to te) := h ▸ L2.pe_join ho he hs hbase hline
end Kk
namespace Dl
open PySem PySem.Spec PyProof.Rows L2
open Evl (Ex)
section
variable {K : PySem.W.Frag} {w : World} {δ : List Slot} {te ta tb tc : TE} {tr : TA} {tt : TT} {t u : TS} {d : Dn} {Φ : Slot → List Slot → Prop}
theorem dr_strs {B H : Hp} {v : V} {ys : List Str} (e : Ex B H) (h : Dr K B H v (.list (ys.map PyData.str)) ∨ Dr K B H v (.tuple (ys.map PyData.str))) : ∃ p, v = .ref p ∧ (SqL K H p (ys.map V.str) ∨ SqT K H p (ys.map V.str)) := by
  obtain ⟨p, xs, rfl, hs, ha⟩ := dr_seq e h
  have ex := dpa_strs_inv ha
  subst ex
  exact ⟨p, rfl, hs⟩
theorem ev_joinS {a : Str} (h : EvS K te δ fun s δ1 => ∃ ys : List Str, (den K δ1 s (.list (ys.map PyData.str)) ∨ den K δ1 s (.tuple (ys.map PyData.str))) ∧ (ys.map (·.length)).sum + ys.length * a.length ≤ 16777216 ∧ Φ (.pu (.str (Txt.join a ys))) δ1) :
    EvS K (tM1 (fun x xs H Q => ∃ a p, ∃ ys : List Str, x = .str a ∧ xs = [.ref p] ∧ (SqL K H p (ys.map V.str) ∨ SqT K H p (ys.map V.str)) ∧
      (ys.map (·.length)).sum + ys.length * a.length ≤ 16777216 ∧ Q (.str (Txt.join a ys)) H) (tC (.str a)) te) δ Φ := fun B H σ F Q S k =>
  ⟨⟨a, rfl⟩, ev_unP (ta := te) (r := fun y H Q => ∃ a' p, ∃ ys : List Str, V.str a = .str a' ∧ [y] = [.ref p] ∧ (SqL K H p (ys.map V.str) ∨ SqT K H p (ys.map V.str)) ∧ (ys.map (·.length)).sum + ys.length * a'.length ≤ 16777216 ∧ Q (.str (Txt.join a' ys)) H)
    (h.imp fun s δ1 ⟨ys, hd, hl, q⟩ => by
      obtain ⟨x, hx, kx⟩ := den2 (B := fun _ => none) (H := fun _ => none) (v := .non) hd
      exact ⟨x, .str (Txt.join a ys), hx, unP_flat rfl fun B H u Q e dd kk => by
        obtain ⟨p, rfl, hs⟩ := dr_strs e (kx B H u dd)
        exact ⟨a, p, ys, rfl, rfl, hs, hl, kk⟩, q⟩) B H σ F Q S k⟩
theorem dr_strV {B H : Hp} {v : V} {x : Str} (h : Dr K B H v (.str x)) : v = .str x := dr_str h
theorem ev_splitS {b : Str} (h : EvS K ta δ fun s δ1 => ∃ a : Str, s = .pu (.str a) ∧ (b.length == 0) = false ∧ a.length + 2 ≤ sizeLine ∧ Φ (.ow (RL K ((Txt.split a b).map PyData.str))) δ1) :
    EvS K (tM1 (fun x xs H Q => ∃ a b, x = .str a ∧ xs = [.str b] ∧ (b.length == 0) = false ∧ a.length + 2 ≤ sizeLine ∧ rNewStrs (Txt.split a b) H Q) ta (tC (.str b))) δ Φ :=
  ev_unL (r := fun x H Q => (∃ a, x = .str a) ∧ ∃ a b', x = .str a ∧ [V.str b] = [.str b'] ∧ (b'.length == 0) = false ∧ a.length + 2 ≤ sizeLine ∧ rNewStrs (Txt.split a b') H Q) (h.imp fun s δ1 ⟨a, hs, hb, hl, q⟩ => ⟨.str a, _, .inl hs, fun B H u Q e dd kk => by
    rw [dr_str dd]
    exact ⟨⟨a, rfl⟩, a, b, rfl, rfl, hb, hl, fun p hp => kk p _ hp (dpa_strs _)⟩, q⟩)
theorem ev_ixS (h : EvS K ta δ fun s1 δ1 => EvS K tb δ1 fun s2 δ2 => ∃ (z : Str) (i : Int) (c : Nat), s1 = .pu (.str z) ∧ s2 = .pu (.int i) ∧ z.length ≤ sizeLine ∧ atI z.cps.toList i = some c ∧ Φ (.pu (.str ⟨#[c]⟩)) δ2) : EvS K (tOp rIxS ta tb) δ Φ :=
  ev_opP (h.imp fun s1 δ1 h1 => h1.imp fun s2 δ2 ⟨z, i, c, e1, e2, hl, hc, q⟩ => ⟨.str z, .int i, .str ⟨#[c]⟩, .inl e1, .inl e2, opP_flat rfl fun B H u v Q e d1 d2 k => ⟨z, i, c, dr_str d1, dr_int d2, hl, hc, k⟩, q⟩)
theorem ev_inSg (h : EvS K ta δ fun s1 δ1 => EvS K tb δ1 fun s2 δ2 => ∃ (c : Nat) (z : Str), s1 = .pu (.str ⟨#[c]⟩) ∧ s2 = .pu (.str z) ∧ Φ (.pu (.bool (decide (c ∈ z.cps.toList)))) δ2) : EvS K (tOp (fun x y H Q => ∃ (c : Nat) (z : Str), x = .str ⟨#[c]⟩ ∧ y = .str z ∧ Q (.bl (decide (c ∈ z.cps.toList))) H) ta tb) δ Φ :=
  ev_opP (h.imp fun s1 δ1 h1 => h1.imp fun s2 δ2 ⟨c, z, e1, e2, q⟩ => ⟨.str ⟨#[c]⟩, .str z, .bool _, .inl e1, .inl e2, opP_flat rfl fun B H u v Q e d1 d2 k => ⟨c, z, dr_str d1, dr_str d2, k⟩, q⟩)
theorem ev_notInSg (h : EvS K ta δ fun s1 δ1 => EvS K tb δ1 fun s2 δ2 => ∃ (c : Nat) (z : Str), s1 = .pu (.str ⟨#[c]⟩) ∧ s2 = .pu (.str z) ∧ Φ (.pu (.bool (!decide (c ∈ z.cps.toList)))) δ2) : EvS K (tOp (fun x y H Q => ∃ (c : Nat) (z : Str), x = .str ⟨#[c]⟩ ∧ y = .str z ∧ Q (.bl (!decide (c ∈ z.cps.toList))) H) ta tb) δ Φ :=
  ev_opP (h.imp fun s1 δ1 h1 => h1.imp fun s2 δ2 ⟨c, z, e1, e2, q⟩ => ⟨.str ⟨#[c]⟩, .str z, .bool _, .inl e1, .inl e2, opP_flat rfl fun B H u v Q e d1 d2 k => ⟨c, z, dr_str d1, dr_str d2, k⟩, q⟩)
theorem ev_intS (h : EvS K ta δ fun s δ1 => ∃ (a : Str) (n : Int), s = .pu (.str a) ∧ PySem.intText? a = some n ∧ a.length ≤ 640 ∧ Φ (.pu (.int n)) δ1) : EvS K (tCB (fun xs H Q => ∃ a n, xs = [.str a] ∧ PySem.intText? a = some n ∧ a.length ≤ 640 ∧ Q (.int n) H) (tCons ta tNil)) δ Φ :=
  ev_cb1P (h.imp fun s δ1 ⟨a, n, h1, h2, h3, q⟩ => ⟨.str a, .int n, .inl h1, unP_flat rfl fun B H u Q e dd kk => ⟨a, n, by rw [dr_str dd], h2, h3, kk⟩, q⟩)
/-- over a text's signs -/
theorem ev_lcS {g : TG} {vs : List Nat} (h : EvS K ta δ fun s δ1 => ∃ z : Str, s = .pu (.str z) ∧ Wip δ1 vs ∧ ∃ Pv : Nat → List PyData → Prop, Pv 0 [] ∧ (∀ (i : Nat) (c : Nat) acc, z.cps.toList[i]? = some c → Pv i acc → TurnC K g tt te vs δ1 (.str ⟨#[c]⟩) acc (Pv (i + 1))) ∧ ∀ acc, Pv z.cps.toList.length acc → Φ (.ow (RL K acc)) δ1) : EvS K (tLc (iStr ta) g tt te vs) δ Φ := fun B H σ F Q S kk =>
  h B H σ F _ S fun v M s B2 H2 δ1 e f S2 w n ⟨z, es, hw, Pv, h0, hs, hd⟩ => by
    subst es
    have S2' : Sd K B2 H2 σ δ1 F := S2.less fun a z => .inl z
    refine ⟨z, dp_str_inv w.1, ?_⟩
    refine lc_core' (n := z.cps.toList.length) (item := fun i => .str ⟨#[z.cps.toList.getD i 0]⟩) Pv S2' (F0 := F) (fun a z => z) hw (fun i hi B' H' e' f' S' => ?_) (fun B' H' e' f' S' => ?_) h0 (fun i acc hi q => hs i _ acc (by rw [List.getD_eq_getElem?_getD, List.getElem?_eq_getElem hi]; rfl) q) (fun acc v M B3 H3 p e3 f3 S3 hP hM => kk v M (.ow (RL K acc)) B3 H3 δ1 (e.trans e3) (fun a z => (f3 a z).trans (f a z)) S3 hP hM (hd acc p))
    · have hi' : i < z.cps.size := by simpa using hi
      refine ⟨hi', fun y H3 hy => ?_⟩
      obtain ⟨e1, c, hc, e2⟩ := hy
      subst e1 e2
      refine ⟨B', Gr.refl S'.bh, ?_⟩
      have e3 : z.cps.toList.getD i 0 = c := by
        rw [List.getD_eq_getElem?_getD, ← Array.getElem?_toList] at *
        rw [hc]
        rfl
      rw [e3]
      exact .str _
    · show z.cps.size ≤ z.cps.toList.length
      simp
theorem ev_fS {j : Nat} (p : Nat → Bool) (v : Nat → PyData) (h : EvS K ta δ fun s δ1 => ∃ z : Str, s = .pu (.str z) ∧ Wip δ1 [j] ∧ j < δ1.length ∧ z.cps.toList.length ≤ 100000 ∧ (∀ a ∈ z.cps.toList, Turn1C K tt te j δ1 (.str ⟨#[a]⟩) (p a) (v a)) ∧ Φ (.ow (RL K ((z.cps.toList.filter p).map v))) δ1) : EvS K (tLc (iStr ta) (gName j) tt te [j]) δ Φ :=
  ev_lcS (h.imp fun s δ1 ⟨z, hd, hw, hj, hl, ht, q⟩ => ⟨z, hd, hw, fun i acc => acc = ((z.cps.toList.take i).filter p).map v, rfl, fun i c acc hc hacc => by
    subst hacc
    exact turn_filt (g := fun c : Nat => PyData.str ⟨#[c]⟩) hj hl hc (ht c (List.mem_of_getElem? hc)), fun acc hacc => by
    have hacc2 : acc = ((z.cps.toList.take z.cps.toList.length).filter p).map v := hacc
    rw [List.take_length] at hacc2
    rw [hacc2]
    exact q⟩)
theorem memD_none (ns : List Int) : memD .none (ns.map PyData.int) = false := by
  induction ns with
  | nil => rfl
  | cons n r ih => first | exact ih | (unfold memD at ih ⊢; simpa using ih)
end
end Dl

/-! Dl13: objects that are owned, their fields, references into them. -/
namespace Dl
open PySem PySem.Spec PyProof.Rows L2
open Evl (Ex)
/-- R stands at the address a -/
def IsAt (R : Res) (a : Addr) : Prop := ∀ v B H M, R.P v B H M → v = .ref a
/-- the instance at a, which R owns, has data d in its field f -/
def FldD (K : PySem.W.Frag) (R : Res) (a : Addr) (f : Str) (d : PyData) : Prop := ∀ v B H M, R.P v B H M → ∃ C dx fs u, H a = some (.ins C dx fs) ∧ Cls K C ∧ NoAttr K C f ∧ fs.lookup f = some u ∧ Dp K B u d
/-- .. a reference to b -/
def FldR (K : PySem.W.Frag) (R : Res) (a : Addr) (f : Str) (b : Addr) : Prop := ∀ v B H M, R.P v B H M → ∃ C dx fs, H a = some (.ins C dx fs) ∧ Cls K C ∧ NoAttr K C f ∧ fs.lookup f = some (.ref b)
/-- the list at b holds references -/
def ShowsR (R : Res) (b : Addr) (as : List Addr) : Prop := ∀ v B H M, R.P v B H M → H b = some (.lst (as.map V.ref))
/-- to put d into the field f of the instance at a makes R' of R -/
def PutD (K : PySem.W.Frag) (R R' : Res) (a : Addr) (f : Str) (d : PyData) : Prop := ∀ v B H M y, R.P v B H M → Dp K B y d → ∃ C dx fs, H a = some (.ins C dx fs) ∧ M a ∧ Cls K C ∧ NoAttr K C f ∧ fs.length < 1000 ∧ R'.P v B (upd H a (.ins C dx (putF f y fs))) M
/-- to put a new list of ds into the field f of the instance at a makes R' of R -/
def PutL (K : PySem.W.Frag) (R R' : Res) (a : Addr) (f : Str) (ds : List PyData) : Prop := ∀ v B H M r xs, R.P v B H M → H r = some (.lst xs) → DpAll K B xs ds → ¬ M r → ∃ C dx fs, H a = some (.ins C dx fs) ∧ M a ∧ Cls K C ∧ NoAttr K C f ∧ fs.length < 1000 ∧ R'.P v B (upd H a (.ins C dx (putF f (.ref r) fs))) (fun c => M c ∨ c = r)
/-- to append d to the list at b makes R' of R -/
def AppD (K : PySem.W.Frag) (R R' : Res) (b : Addr) (d : PyData) : Prop := ∀ v B H M y, R.P v B H M → Dp K B y d → ∃ xs, H b = some (.lst xs) ∧ M b ∧ xs.length < sizeLine ∧ R'.P v B (upd H b (.lst (xs ++ [y]))) M
/-- the slot is the address a, of R at slot i -/
def At (δ : List Slot) (s : Slot) (i : Nat) (R : Res) (a : Addr) : Prop := δ[i]? = some (.ow R) ∧ (s = .ow (RRef a) ∨ s = .al i ∧ IsAt R a)
section
variable {K : PySem.W.Frag} {w : World} {δ : List Slot} {te ta tb tc : TE} {tr : TA} {tt : TT} {t u : TS} {d : Dn} {Φ : Slot → List Slot → Prop} {B H : Hp} {σ : L2.St} {F F' M : Addr → Prop}
theorem at_ref {v : V} {s : Slot} {i : Nat} {R : Res} {a : Addr} (S : Sd K B H σ δ F') (h : VOk K σ δ B H v M s) (ha : At δ s i R a) : v = .ref a ∧ ∃ v' M', σ[i]? = some (some v') ∧ R.P v' B H M' := by
  obtain ⟨hi, hs⟩ := ha
  obtain ⟨v', M', ev, hP, _⟩ := S.opn hi
  rcases hs with rfl | ⟨rfl, hat⟩
  · exact ⟨h.1, v', M', ev, hP⟩
  · obtain ⟨e, _⟩ := h
    rw [e] at ev
    cases ev
    exact ⟨hat _ _ _ _ hP, _, _, e, hP⟩
theorem ev_fldD {f : Str} (h : EvS K ta δ fun s δ1 => ∃ i R a d, At δ1 s i R a ∧ FldD K R a f d ∧ Φ (.pu d) δ1) : EvS K (tFld K ta f) δ Φ := fun B H σ F Q S k =>
  h B H σ F _ S fun v M s B2 H2 δ1 e fr S2 wk n ⟨i, R, a, d, ha, hf, q⟩ => by
    obtain ⟨rfl, v', M', ev, hP⟩ := at_ref S2 wk ha
    obtain ⟨C, dx, fs, u, h1, h2, h3, h4, h5⟩ := hf _ _ _ _ hP
    exact ⟨a, C, dx, fs, u, rfl, h1, h2, h3, h4, k u (fun _ => False) (.pu d) B2 H2 δ1 e (fun a z => fr a z) ((S2.less fun a z => .inl z).less fun a z => z.elim id False.elim) ⟨h5, fun _ z => z⟩ (fun _ z => z.elim) q⟩
theorem ev_fldR {f : Str} (h : EvS K ta δ fun s δ1 => ∃ i R a b, At δ1 s i R a ∧ FldR K R a f b ∧ Φ (.ow (RRef b)) δ1) : EvS K (tFld K ta f) δ Φ := fun B H σ F Q S k =>
  h B H σ F _ S fun v M s B2 H2 δ1 e fr S2 wk n ⟨i, R, a, b, ha, hf, q⟩ => by
    obtain ⟨rfl, v', M', ev, hP⟩ := at_ref S2 wk ha
    obtain ⟨C, dx, fs, h1, h2, h3, h4⟩ := hf _ _ _ _ hP
    exact ⟨a, C, dx, fs, _, rfl, h1, h2, h3, h4, k (.ref b) (fun _ => False) (.ow (RRef b)) B2 H2 δ1 e (fun a z => fr a z) ((S2.less fun a z => .inl z).less fun a z => z.elim id False.elim) ⟨rfl, fun _ z => z⟩ (fun _ z => z.elim) q⟩
/-- one address of R changes, R' holds behind it -/
theorem Sd.putR {i : Nat} {R : Res} (S : Sd K B H σ δ F) (hi : δ[i]? = some (.ow R)) : ∃ v M, σ[i]? = some (some v) ∧ R.P v B H M ∧ ∀ (a : Addr) (o : HO) (R' : Res), M a → R'.P v B (upd H a o) M → Sd K B (upd H a o) σ (δ.set i (.ow R')) F ∧ ∀ b, F b → upd H a o b = H b := by
  obtain ⟨v, M, ev, hP, hb, hF, op⟩ := S.opn hi
  refine ⟨v, M, ev, hP, fun a o R' ha hR => ⟨?_, fun b z => upd_ne fun e => hF b (by rw [e]; exact ha) z⟩⟩
  have q2 := op B (upd H a o) (some v) (.ow R') M (Ex.refl _) (fun c u ha' => by
      rw [upd_ne (fun e => by rw [e, hb a ha] at ha'; cases ha')]
      exact S.bh c u ha') (fun c o' ha' nm => by rw [upd_ne (fun e => nm (by rw [e]; exact ha))]; exact ha') (fun _ _ z => .inl z)
      ⟨_, rfl, hR, hb⟩ (fun a z => .inl z)
  rwa [set_self ev] at q2
theorem ev_ixRef (h : EvS K ta δ fun s1 δ1 => EvS K tb δ1 fun s2 δ2 => ∃ (b : Addr) (i : Nat) (R : Res) (as : List Addr) (k : Int) (a : Addr), s1 = .ow (RRef b) ∧ δ2[i]? = some (.ow R) ∧ ShowsR R b as ∧ s2 = .pu (.int k) ∧ atI as k = some a ∧ Φ (.ow (RRef a)) δ2) : EvS K (tOp (rIxL K) ta tb) δ Φ := fun B H σ F Q S kk =>
  h B H σ F _ S fun v1 M1 s1 B1 H1 δ1 e1 f1 S1 w1 n1 p1 => p1 B1 H1 σ _ _ S1 fun v2 M2 s2 B2 H2 δ2 e2 f2 S2 w2 n2 ⟨b, i, R, as, k, a, es1, hi, hs, es2, ha, q⟩ => by
    subst es1 es2
    obtain ⟨rfl, hM1⟩ := w1
    obtain ⟨v', M', ev, hP, _⟩ := S2.opn hi
    have hat : atI (as.map V.ref) k = some (.ref a) := by
      unfold atI at ha ⊢
      rw [List.length_map]
      cases e : ixN as.length k with
      | none => rw [e] at ha; cases ha
      | some j =>
        rw [e] at ha
        show (as.map V.ref)[j]? = _
        rw [List.getElem?_map, show as[j]? = some a from ha]
        rfl
    exact ⟨b, _, k, _, rfl, dp_int_inv w2.1, SqL.of (hs _ _ _ _ hP), hat, kk (.ref a) (fun _ => False) (.ow (RRef a)) B2 H2 δ2 (e1.trans e2) (fun c z => (f2 c (.inl z)).trans (f1 c z)) (S2.less fun c z => .inl (.inl (z.elim id False.elim))) ⟨rfl, fun _ z => z⟩ (fun _ z => z.elim) q⟩
/-- a field is stored -/
theorem xs_fldD {f : Str} (h : EvD K tb δ fun x δ1 => EvS K ta δ1 fun s δ2 => ∃ (i : Nat) (R R' : Res) (a : Addr), At δ2 s i R a ∧ PutD K R R' a f x ∧ d.nx (δ2.set i (.ow R'))) : ExS K (sFld K ta tb f) d δ := fun B H σ F D S L =>
  h B H σ F _ S fun v x B1 H1 δ1 e1 f1 S1 hd p => p B1 H1 σ F _ S1 fun u M s B2 H2 δ2 e2 f2 S2 wk n ⟨i, R, R', a, ha, hp, q⟩ => by
    obtain ⟨rfl, _⟩ := at_ref S2 wk ha
    have S2' : Sd K B2 H2 σ δ2 F := S2.less fun c z => .inl z
    obtain ⟨v', M', ev, hP, put⟩ := S2'.putR ha.1
    obtain ⟨C, dx, fs, g1, g2, g3, g4, g5, g6⟩ := hp _ _ _ _ v hP (dp_mono e2 _ _ hd)
    obtain ⟨S3, f3⟩ := put a _ R' g2 g6
    exact ⟨a, C, dx, fs, rfl, g1, g3, g4, g5, L.nx B2 _ σ _ (e1.trans e2) (fun c z => (f3 c z).trans ((f2 c z).trans (f1 c z))) S3 q⟩
/-- xs.append(x), xs a list inside -/
theorem ev_appR (h : EvS K ta δ fun s δ1 => ∃ (b : Addr) (i0 : Nat) (R0 : Res) (ds0 : List PyData), s = .ow (RRef b) ∧ δ1[i0]? = some (.ow R0) ∧ Shows K R0 b ds0 ∧ EvD K te δ1 fun x δ2 => ∃ (i : Nat) (R R' : Res), δ2[i]? = some (.ow R) ∧ AppD K R R' b x ∧ Φ (.pu .none) (δ2.set i (.ow R'))) : EvS K (tBM K "list" rAppend ta (tCons te tNil)) δ Φ := fun B H σ F Q S k =>
  h B H σ F _ S fun v M s B1 H1 δ1 e1 f1 S1 wk n ⟨b, i0, R0, ds0, es, h0, hs0, p⟩ => by
    subst es
    obtain ⟨rfl, hM⟩ := wk
    obtain ⟨v0, M0, ev0, hP0, _⟩ := S1.opn h0
    obtain ⟨xs0, hx0, _⟩ := hs0 _ _ _ _ hP0
    refine ⟨.inl ⟨rfl, xs0, SqL.of hx0⟩, p B1 H1 σ _ _ (S1.less fun c z => .inl z) fun y x B2 H2 δ2 e2 f2 S2 hd ⟨i, R, R', hi, hp, q⟩ => ?_⟩
    obtain ⟨v', M', ev, hP, put⟩ := S2.putR hi
    obtain ⟨xs, g1, g2, g3, g4⟩ := hp _ _ _ _ y hP hd
    obtain ⟨S3, f3⟩ := put b _ R' g2 g4
    exact ⟨b, xs, y, rfl, rfl, g1, g3, k .non (fun _ => False) (.pu .none) B2 _ _ (e1.trans e2) (fun c z => (f3 c z).trans ((f2 c z).trans (f1 c z))) (S3.less fun c z => z.elim id False.elim) ⟨.non, fun _ z => z⟩ (fun _ z => z.elim) q⟩
/-- what a temporary owns moves into R' at slot i, one address of R changes -/
theorem Sd.absorb {i : Nat} {R : Res} {M1 : Addr → Prop} (S : Sd K B H σ δ (fun a => F a ∨ M1 a)) (hFM : ∀ a, M1 a → ¬ F a) (hi : δ[i]? = some (.ow R)) :
    ∃ v M, σ[i]? = some (some v) ∧ R.P v B H M ∧ (∀ a, M a → ¬ M1 a) ∧ ∀ (a : Addr) (o : HO) (R' : Res), M a → R'.P v B (upd H a o) (fun c => M c ∨ M1 c) → Sd K B (upd H a o) σ (δ.set i (.ow R')) F ∧ ∀ b, F b → upd H a o b = H b := by
  obtain ⟨ms, h1, h2, h3, h4⟩ := S.sl
  obtain ⟨v, ev, hP, hb⟩ := h1 i _ hi
  have il : i < δ.length := (List.getElem?_eq_some_iff.mp hi).1
  refine ⟨v, ms i, ev, hP, fun a ha hm => h3 i a ha (.inr hm), fun a o R' ha hR => ?_⟩
  have ne : ∀ c, c ≠ a → upd H a o c = H c := fun c hc => upd_ne hc
  have nF : ∀ c, F c → c ≠ a := fun c hc e => h3 i a ha (.inl (e ▸ hc))
  refine ⟨⟨fun c u hc => ?_, by rw [List.length_set]; exact S.len, fun c hc => S.fb c (.inl hc), fun c hc => by rw [ne c (nF c hc)]; exact S.fl c (.inl hc), updM ms i (fun c => ms i c ∨ M1 c), fun j t ht => ?_, fun j l c hj hl => ?_, fun j c hj => ?_, fun j c hj => ?_⟩, fun c hc => ne c (nF c hc)⟩
  · rw [ne c (fun e => by rw [e, hb a ha] at hc; cases hc)]
    exact S.bh c u hc
  · by_cases e : j = i
    · subst e
      rw [List.getElem?_set_self il] at ht
      cases ht
      rw [updM_eq rfl]
      exact ⟨v, ev, hR, fun c hc => hc.elim (hb c) fun z => S.fb c (.inr z)⟩
    · rw [List.getElem?_set_ne (Ne.symm e)] at ht
      rw [updM_ne e]
      have q := h1 j t ht
      cases t with
      | non => exact q
      | pu d => exact q
      | ow R2 =>
        obtain ⟨u, e3, hP2, hb2⟩ := q
        exact ⟨u, e3, R2.loc hP2 (Ex.refl _) (fun c hc => ne c fun e4 => e (h2 j i a (e4 ▸ hc) ha)), hb2⟩
      | al _ => exact q
  · by_cases e : j = i
    · subst e
      by_cases e2 : l = j
      · exact e2.symm
      · rw [updM_eq rfl] at hj
        rw [updM_ne e2] at hl
        rcases hj with hj | hj
        · exact h2 _ _ c hj hl
        · exact absurd (.inr hj) (h3 l c hl)
    · rw [updM_ne e] at hj
      by_cases e2 : l = i
      · subst e2
        rw [updM_eq rfl] at hl
        rcases hl with hl | hl
        · exact h2 _ _ c hj hl
        · exact absurd (.inr hl) (h3 j c hj)
      · rw [updM_ne e2] at hl
        exact h2 _ _ c hj hl
  · by_cases e : j = i
    · subst e
      rw [updM_eq rfl] at hj
      rcases hj with hj | hj
      · exact fun z => h3 j c hj (.inl z)
      · exact hFM c hj
    · rw [updM_ne e] at hj
      exact fun z => h3 j c hj (.inl z)
  · rw [List.length_set]
    by_cases e : j = i
    · rw [e]; exact il
    · rw [updM_ne e] at hj
      exact h4 j c hj
/-- a field is given a new list -/
theorem xs_fldL {f : Str} (h : EvS K tb δ fun s1 δ1 => ∃ ds, s1 = .ow (RL K ds) ∧ EvS K ta δ1 fun s δ2 => ∃ (i : Nat) (R R' : Res) (a : Addr), At δ2 s i R a ∧ PutL K R R' a f ds ∧ d.nx (δ2.set i (.ow R'))) : ExS K (sFld K ta tb f) d δ := fun B H σ F D S L =>
  h B H σ F _ S fun v M1 s1 B1 H1 δ1 e1 f1 S1 w1 n1 ⟨ds, es, p⟩ => p B1 H1 σ _ _ S1 fun u M s B2 H2 δ2 e2 f2 S2 wk n ⟨i, R, R', a, ha, hp, q⟩ => by
    subst es
    obtain ⟨r, xs, rfl, hr, hx, hM1⟩ := w1
    obtain ⟨rfl, _⟩ := at_ref S2 wk ha
    have S2' : Sd K B2 H2 σ δ2 (fun a => F a ∨ M1 a) := S2.less fun c z => .inl z
    obtain ⟨v', M', ev, hP, hdis, put⟩ := S2'.absorb (fun c hc hf => n1 c hc hf) ha.1
    have hr2 : H2 r = some (.lst xs) := by rw [f2 r (.inr ((hM1 r).mpr rfl))]; exact hr
    have hE : M1 = fun c => c = r := funext fun c => propext (hM1 c)
    obtain ⟨C, dx, fs, g1, g2, g3, g4, g5, g6⟩ := hp _ _ _ _ r xs hP hr2 (dpa_mono e2 _ _ hx) (fun hm => hdis r hm ((hM1 r).mpr rfl))
    obtain ⟨S3, f3⟩ := put a _ R' g2 (by rw [hE]; exact g6)
    exact ⟨a, C, dx, fs, rfl, g1, g3, g4, g5, L.nx B2 _ σ _ (e1.trans e2) (fun c z => (f3 c z).trans ((f2 c (.inl z)).trans (f1 c z))) S3 q⟩
end
end Dl

/-! Dl14: cells that are owned together; a slot changes, in general; loops whose items are references. -/
namespace Dl
open PySem PySem.Spec PyProof.Rows L2
open Evl (Ex)
inductive CV where
  | d (x : PyData) | r (a : Addr)
inductive Cell where
  | ins (C : Addr) (fs : List (Str × CV)) | lst (xs : List CV) | dct (fs : List (Str × CV)) | tup (xs : List CV)
abbrev Cells := List (Addr × Cell)
def CvOk (K : PySem.W.Frag) (B : Hp) (v : V) : CV → Prop
  | .d x => Dp K B v x
  | .r a => v = .ref a
inductive CvAll (K : PySem.W.Frag) (B : Hp) : List V → List CV → Prop
  | nil : CvAll K B [] []
  | cons {v : V} {c : CV} {vs : List V} {cs : List CV} : CvOk K B v c → CvAll K B vs cs → CvAll K B (v :: vs) (c :: cs)
inductive FsAll (K : PySem.W.Frag) (B : Hp) : List (Str × V) → List (Str × CV) → Prop
  | nil : FsAll K B [] []
  | cons {f : Str} {v : V} {c : CV} {vs : List (Str × V)} {cs : List (Str × CV)} : CvOk K B v c → FsAll K B vs cs → FsAll K B ((f, v) :: vs) ((f, c) :: cs)
/-- a dict whose keys are texts -/
inductive TsAll (K : PySem.W.Frag) (B : Hp) : List (Key × V) → List (Str × CV) → Prop
  | nil : TsAll K B [] []
  | cons {f : Str} {v : V} {c : CV} {vs : List (Key × V)} {cs : List (Str × CV)} : CvOk K B v c → TsAll K B vs cs → TsAll K B ((.inr f, v) :: vs) ((f, c) :: cs)
def putT (fs : List (Str × CV)) (f : Str) (c : CV) : List (Str × CV) :=
  if (fs.any fun kv => decide (kv.1 = f)) = true then fs.map (fun kv => if kv.1 = f then (kv.1, c) else kv) else fs ++ [(f, c)]
def putC (f : Str) (v : CV) : List (Str × CV) → List (Str × CV)
  | [] => [(f, v)]
  | (g, x) :: r => if g = f then (g, v) :: r else (g, x) :: putC f v r
section
variable {K : PySem.W.Frag} {B B' H : Hp}
theorem cv_mono (e : Ex B B') {v : V} {c : CV} (h : CvOk K B v c) : CvOk K B' v c := by
  cases c with
  | d x => exact dp_mono e _ _ h
  | r a => exact h
theorem cva_mono (e : Ex B B') : ∀ {vs : List V} {cs : List CV}, CvAll K B vs cs → CvAll K B' vs cs
  | _, _, .nil => .nil
  | _, _, .cons h t => .cons (cv_mono e h) (cva_mono e t)
theorem fsa_mono (e : Ex B B') : ∀ {vs : List (Str × V)} {cs : List (Str × CV)}, FsAll K B vs cs → FsAll K B' vs cs
  | _, _, .nil => .nil
  | _, _, .cons h t => .cons (cv_mono e h) (fsa_mono e t)
theorem tsa_mono (e : Ex B B') : ∀ {vs : List (Key × V)} {cs : List (Str × CV)}, TsAll K B vs cs → TsAll K B' vs cs
  | _, _, .nil => .nil
  | _, _, .cons h t => .cons (cv_mono e h) (tsa_mono e t)
theorem tsa_len : ∀ {vs : List (Key × V)} {cs : List (Str × CV)}, TsAll K B vs cs → vs.length = cs.length
  | _, _, .nil => rfl
  | _, _, .cons _ t => by simp [tsa_len t]
theorem tsa_app : ∀ {xs ys : List (Key × V)} {cs es : List (Str × CV)}, TsAll K B xs cs → TsAll K B ys es → TsAll K B (xs ++ ys) (cs ++ es)
  | _, _, _, _, .nil, s => s
  | _, _, _, _, .cons r t, s => .cons r (tsa_app t s)
theorem tsa_some {f : Str} {c : CV} : ∀ {xs : List (Key × V)} {fs : List (Str × CV)}, TsAll K B xs fs → fs.lookup f = some c → ∃ v, valV xs (.inr f) = some v ∧ CvOk K B v c
  | _, _, .nil, e => by cases e
  | _, _, @TsAll.cons _ _ g v c' xs fs h t, e => by
    rw [List.lookup_cons] at e
    cases q : f == g with
    | true =>
      rw [q] at e
      cases e
      have : g = f := (eq_of_beq q).symm
      subst this
      exact ⟨v, valV_pos rfl, h⟩
    | false =>
      rw [q] at e
      rw [valV_neg (fun z => by cases z; simp at q)]
      exact tsa_some t e
theorem tsa_any {f : Str} : ∀ {xs : List (Key × V)} {fs : List (Str × CV)}, TsAll K B xs fs → (xs.any fun kv => decide (kv.1 = (.inr f : Key))) = (fs.any fun kv => decide (kv.1 = f))
  | _, _, .nil => rfl
  | _, _, @TsAll.cons _ _ g v c' xs fs h t => by
    rw [List.any_cons, List.any_cons, tsa_any t]
    congr 1
    exact decide_eq_decide.mpr ⟨fun z => Sum.inr.inj z, fun z => congrArg Sum.inr z⟩
theorem tsa_map {f : Str} {v : V} {c : CV} (hd : CvOk K B v c) : ∀ {xs : List (Key × V)} {fs : List (Str × CV)}, TsAll K B xs fs → TsAll K B (xs.map fun kv => if kv.1 = (.inr f : Key) then (kv.1, v) else kv) (fs.map fun kv => if kv.1 = f then (kv.1, c) else kv)
  | _, _, .nil => .nil
  | _, _, @TsAll.cons _ _ g v' c' xs fs h t => by
    rw [List.map_cons, List.map_cons]
    by_cases e : g = f
    · subst e
      rw [if_pos rfl, if_pos rfl]
      exact .cons hd (tsa_map hd t)
    · rw [if_neg (fun z => e (Sum.inr.inj z)), if_neg e]
      exact .cons h (tsa_map hd t)
theorem tsa_put {f : Str} {v : V} {c : CV} (hd : CvOk K B v c) {xs : List (Key × V)} {fs : List (Str × CV)} (h : TsAll K B xs fs) : TsAll K B (putK xs (.inr f) v) (putT fs f c) := by
  unfold putK putT
  rw [tsa_any h]
  split
  · exact tsa_map hd h
  · exact tsa_app h (.cons hd .nil)
theorem cva_set {v : V} {c : CV} (r : CvOk K B v c) : ∀ {xs : List V} {cs : List CV} (i : Nat), CvAll K B xs cs → CvAll K B (xs.set i v) (cs.set i c)
  | _, _, _, .nil => .nil
  | _, _, 0, .cons _ t => .cons r t
  | _, _, i + 1, .cons q t => .cons q (cva_set r i t)
theorem cva_len : ∀ {vs : List V} {cs : List CV}, CvAll K B vs cs → vs.length = cs.length
  | _, _, .nil => rfl
  | _, _, .cons _ t => by simp [cva_len t]
theorem fsa_len : ∀ {vs : List (Str × V)} {cs : List (Str × CV)}, FsAll K B vs cs → vs.length = cs.length
  | _, _, .nil => rfl
  | _, _, .cons _ t => by simp [fsa_len t]
theorem cva_app : ∀ {xs ys : List V} {cs es : List CV}, CvAll K B xs cs → CvAll K B ys es → CvAll K B (xs ++ ys) (cs ++ es)
  | _, _, _, _, .nil, s => s
  | _, _, _, _, .cons r t, s => .cons r (cva_app t s)
theorem cva_data : ∀ {vs : List V} {ds : List PyData}, DpAll K B vs ds → CvAll K B vs (ds.map .d)
  | _, _, .nil => .nil
  | _, _, .cons h t => .cons h (cva_data t)
theorem cva_data' : ∀ {ds : List PyData} {vs : List V}, CvAll K B vs (ds.map .d) → DpAll K B vs ds
  | [], _, h => by cases h; exact .nil
  | d :: ds, _, h => by
    cases h with
    | cons h1 h2 => exact .cons h1 (cva_data' h2)
theorem cva_refs : ∀ {as : List Addr} {vs : List V}, CvAll K B vs (as.map .r) → vs = as.map V.ref
  | [], _, h => by cases h; rfl
  | a :: as, _, h => by
    cases h with
    | cons h1 h2 =>
      rw [cva_refs h2, show _ = V.ref a from h1]
      rfl
theorem cva_refs' : ∀ (as : List Addr), CvAll K B (as.map V.ref) (as.map .r)
  | [] => .nil
  | a :: as => .cons rfl (cva_refs' as)
theorem fsa_some {f : Str} {c : CV} : ∀ {xs : List (Str × V)} {fs : List (Str × CV)}, FsAll K B xs fs → fs.lookup f = some c → ∃ v, xs.lookup f = some v ∧ CvOk K B v c
  | _, _, .nil, e => by cases e
  | _, _, @FsAll.cons _ _ g v c' xs fs h t, e => by
    rw [List.lookup_cons] at e ⊢
    cases q : f == g with
    | true =>
      rw [q] at e
      cases e
      exact ⟨v, rfl, h⟩
    | false =>
      rw [q] at e
      exact fsa_some t e
theorem fsa_none {f : Str} : ∀ {xs : List (Str × V)} {fs : List (Str × CV)}, FsAll K B xs fs → fs.lookup f = none → xs.lookup f = none
  | _, _, .nil, e => rfl
  | _, _, @FsAll.cons _ _ g v c' xs fs h t, e => by
    rw [List.lookup_cons] at e ⊢
    cases q : f == g with
    | true =>
      rw [q] at e
      cases e
    | false =>
      rw [q] at e
      exact fsa_none t e
theorem fsa_put {f : Str} {v : V} {c : CV} (hc : CvOk K B v c) : ∀ {xs : List (Str × V)} {fs : List (Str × CV)}, FsAll K B xs fs → FsAll K B (putF f v xs) (putC f c fs)
  | _, _, .nil => .cons hc .nil
  | _, _, @FsAll.cons _ _ g v' c' xs fs h t => by
    show FsAll K B (if g = f then _ else _) (if g = f then _ else _)
    by_cases e : g = f
    · rw [if_pos e, if_pos e]
      exact .cons hc t
    · rw [if_neg e, if_neg e]
      exact .cons h (fsa_put hc t)
end
def CellAt (K : PySem.W.Frag) (B : Hp) (o : Option HO) : Cell → Prop
  | .ins C fs => ∃ dx xs, o = some (.ins C dx xs) ∧ FsAll K B xs fs
  | .lst cs => ∃ vs, o = some (.lst vs) ∧ CvAll K B vs cs
  | .dct fs => ∃ xs, o = some (.dK xs) ∧ TsAll K B xs fs
  | .tup cs => ∃ vs, o = some (.tup vs) ∧ CvAll K B vs cs
theorem cell_mono {K : PySem.W.Frag} {B B' : Hp} {o : Option HO} {c : Cell} (e : Ex B B') (h : CellAt K B o c) : CellAt K B' o c := by
  cases c with
  | ins C fs => obtain ⟨dx, xs, h1, h2⟩ := h; exact ⟨dx, xs, h1, fsa_mono e h2⟩
  | lst cs => obtain ⟨vs, h1, h2⟩ := h; exact ⟨vs, h1, cva_mono e h2⟩
  | dct fs => obtain ⟨vs, h1, h2⟩ := h; exact ⟨vs, h1, tsa_mono e h2⟩
  | tup cs => obtain ⟨vs, h1, h2⟩ := h; exact ⟨vs, h1, cva_mono e h2⟩
theorem cell_some {K : PySem.W.Frag} {B : Hp} {o : Option HO} {c : Cell} (h : CellAt K B o c) : o ≠ none := by
  cases c with
  | ins C fs => obtain ⟨dx, xs, h1, h2⟩ := h; rw [h1]; exact fun z => nomatch z
  | lst cs => obtain ⟨vs, h1, h2⟩ := h; rw [h1]; exact fun z => nomatch z
  | dct fs => obtain ⟨vs, h1, h2⟩ := h; rw [h1]; exact fun z => nomatch z
  | tup cs => obtain ⟨vs, h1, h2⟩ := h; rw [h1]; exact fun z => nomatch z
/-- cells, all owned, told by the first one's address -/
def RH (K : PySem.W.Frag) (root : Addr) (cs : Cells) : Res where
  P v B H M := v = .ref root ∧ (∀ x ∈ cs, CellAt K B (H x.1) x.2) ∧ (cs.map (·.1)).Nodup ∧ ∀ a, M a ↔ a ∈ cs.map (·.1)
  loc := by
    rintro v B H B' H' M ⟨h0, h1, h2, h3⟩ e k
    refine ⟨h0, fun x hx => ?_, h2, h3⟩
    rw [k x.1 ((h3 x.1).mpr (List.mem_map.mpr ⟨x, hx, rfl⟩))]
    exact cell_mono e (h1 x hx)
  live := by
    rintro v B H M ⟨h0, h1, h2, h3⟩ a ha
    obtain ⟨x, hx, rfl⟩ := List.mem_map.mp ((h3 a).mp ha)
    exact cell_some (h1 x hx)
/-- the cell c stands at a, another one in its place makes cs' of all -/
def Has (cs : Cells) (a : Addr) (c : Cell) (cs' : Cell → Cells) : Prop := ∃ pre post, cs = pre ++ (a, c) :: post ∧ ∀ c', cs' c' = pre ++ (a, c') :: post
theorem Has.mem {cs : Cells} {a : Addr} {c : Cell} {cs' : Cell → Cells} (h : Has cs a c cs') : (a, c) ∈ cs := by
  obtain ⟨pre, post, rfl, _⟩ := h
  exact List.mem_append_right _ (List.mem_cons_self ..)
section
variable {K : PySem.W.Frag} {B H : Hp} {root a b : Addr} {cs : Cells} {cs' : Cell → Cells} {v : V} {M : Addr → Prop} {c : Cell} {C : Addr} {fs : List (Str × CV)} {f : Str} {x : PyData} {xs : List CV}
theorem RH.get (h : (RH K root cs).P v B H M) (hm : (a, c) ∈ cs) : CellAt K B (H a) c ∧ M a := ⟨h.2.1 (a, c) hm, (h.2.2.2 a).mpr (List.mem_map.mpr ⟨(a, c), hm, rfl⟩)⟩
theorem RH.put {o : HO} {c' : Cell} (h : (RH K root cs).P v B H M) (hh : Has cs a c cs') (ho : CellAt K B (some o) c') : (RH K root (cs' c')).P v B (upd H a o) M := by
  obtain ⟨pre, post, rfl, e⟩ := hh
  obtain ⟨h0, h1, h2, h3⟩ := h
  rw [e c']
  have hk : (pre ++ (a, c') :: post).map (·.1) = (pre ++ (a, c) :: post).map (·.1) := by simp
  rw [List.map_append, List.map_cons] at h2
  have hn := List.nodup_append.mp h2
  refine ⟨h0, fun y hy => ?_, by rw [hk, List.map_append, List.map_cons]; exact h2, fun d => by rw [hk]; exact h3 d⟩
  rcases List.mem_append.mp hy with hy | hy
  · have ne : y.1 ≠ a := fun z => hn.2.2 y.1 (List.mem_map.mpr ⟨y, hy, rfl⟩) a (List.mem_cons_self ..) z
    rw [upd_ne ne]
    exact h1 y (List.mem_append_left _ hy)
  · rcases List.mem_cons.mp hy with rfl | hy
    · rw [upd_same]; exact ho
    · have ne : y.1 ≠ a := fun z => (List.nodup_cons.mp hn.2.1).1 (z ▸ List.mem_map.mpr ⟨y, hy, rfl⟩)
      rw [upd_ne ne]
      exact h1 y (List.mem_append_right _ (List.mem_cons_of_mem _ hy))
/-- fewer cells, in another order -/
theorem RH.sub {cs2 : Cells} (h : (RH K root cs).P v B H M) (hs : ∀ x ∈ cs2, x ∈ cs) (hn : (cs2.map (·.1)).Nodup) : (RH K root cs2).P v B H (fun a => a ∈ cs2.map (·.1)) := ⟨h.1, fun x hx => h.2.1 x (hs x hx), hn, fun _ => Iff.rfl⟩
theorem rh_at : IsAt (RH K root cs) root := fun v B H M h => h.1
theorem fld_d (hm : (a, Cell.ins C fs) ∈ cs) (hf : fs.lookup f = some (.d x)) (k : Cls K C) (n : NoAttr K C f) : FldD K (RH K root cs) a f x := fun v B H M h => by
  obtain ⟨⟨dx, ys, e1, e2⟩, _⟩ := RH.get h hm
  obtain ⟨u, e3, e4⟩ := fsa_some e2 hf
  exact ⟨C, dx, ys, u, e1, k, n, e3, e4⟩
theorem fld_r (hm : (a, Cell.ins C fs) ∈ cs) (hf : fs.lookup f = some (.r b)) (k : Cls K C) (n : NoAttr K C f) : FldR K (RH K root cs) a f b := fun v B H M h => by
  obtain ⟨⟨dx, ys, e1, e2⟩, _⟩ := RH.get h hm
  obtain ⟨u, e3, e4⟩ := fsa_some e2 hf
  exact ⟨C, dx, ys, e1, k, n, by rw [e3, show u = .ref b from e4]⟩
theorem put_d (hh : Has cs a (.ins C fs) cs') (k : Cls K C) (n : NoAttr K C f) (hl : fs.length < 1000) : PutD K (RH K root cs) (RH K root (cs' (.ins C (putC f (.d x) fs)))) a f x := fun v B H M y h hy => by
  obtain ⟨⟨dx, ys, e1, e2⟩, hM⟩ := RH.get h hh.mem
  exact ⟨C, dx, ys, e1, hM, k, n, by rw [fsa_len e2]; exact hl, RH.put h hh ⟨dx, _, rfl, fsa_put (c := .d x) hy e2⟩⟩
theorem app_d (hh : Has cs a (.lst xs) cs') (hl : xs.length < 100000) : AppD K (RH K root cs) (RH K root (cs' (.lst (xs ++ [.d x])))) a x := fun v B H M y h hy => by
  obtain ⟨⟨ys, e1, e2⟩, hM⟩ := RH.get h hh.mem
  exact ⟨ys, e1, hM, Evl.sz_lt (by rw [cva_len e2]; exact hl), RH.put h hh ⟨_, rfl, cva_app e2 (.cons hy .nil)⟩⟩
theorem shows_d {ds : List PyData} (hm : (a, Cell.lst (ds.map .d)) ∈ cs) : Shows K (RH K root cs) a ds := fun v B H M h => by
  obtain ⟨⟨ys, e1, e2⟩, _⟩ := RH.get h hm
  exact ⟨ys, e1, cva_data' e2⟩
theorem shows_r {as : List Addr} (hm : (a, Cell.lst (as.map .r)) ∈ cs) : ShowsR (RH K root cs) a as := fun v B H M h => by
  obtain ⟨⟨ys, e1, e2⟩, _⟩ := RH.get h hm
  rw [e1, cva_refs e2]
end
/-- some one of them -/
def RAny {α : Type} (f : α → Res) : Res where
  P v B H M := ∃ x, (f x).P v B H M
  loc := fun ⟨x, h⟩ e k => ⟨x, (f x).loc h e k⟩
  live := fun ⟨x, h⟩ => (f x).live h
section
variable {K : PySem.W.Frag} {w : World} {δ : List Slot} {te ta tb tc : TE} {tr : TA} {tt : TT} {t u : TS} {d : Dn} {Φ : Slot → List Slot → Prop} {B H : Hp} {σ : L2.St} {F M1 : Addr → Prop}
/-- a slot changes, in general: a temporary's own M1 may move into it, its own and what is new may move out -/
theorem Sd.chg {i : Nat} {R : Res} (S : Sd K B H σ δ (fun a => F a ∨ M1 a)) (hFM : ∀ a, M1 a → ¬ F a) (hi : δ[i]? = some (.ow R)) :
    ∃ v M, σ[i]? = some (some v) ∧ R.P v B H M ∧ (∀ a, M a → B a = none) ∧ (∀ a, M a → ¬ F a ∧ ¬ M1 a) ∧
      ∀ (B2 H2 : Hp) (x : Option V) (s' : Slot) (M' M2 : Addr → Prop), Ex B B2 → Ex B2 H2 → (∀ a o, H a = some o → ¬ M a → ¬ M1 a → H2 a = some o) → (∀ a o, B2 a = some o → B a = some o ∨ H a = none ∨ M a ∨ M1 a) →
        SlotIn K B2 H2 (some x) M' s' → (∀ a, M' a → M a ∨ M1 a ∨ H a = none) → (∀ a, M2 a → (M a ∨ M1 a ∨ H a = none) ∧ B2 a = none ∧ H2 a ≠ none ∧ ¬ M' a) →
        Sd K B2 H2 (σ.set i x) (δ.set i s') (fun a => F a ∨ M2 a) := by
  obtain ⟨ms, h1, h2, h3, h4⟩ := S.sl
  obtain ⟨v, ev, hP, hb⟩ := h1 i _ hi
  refine ⟨v, ms i, ev, hP, hb, fun a z => ⟨fun f => h3 i a z (.inl f), fun m => h3 i a z (.inr m)⟩, fun B2 H2 x s' M' M2 e1 e2 k nw hs hM hM2 => ?_⟩
  have il : i < δ.length := (List.getElem?_eq_some_iff.mp hi).1
  have fb2 : ∀ a, B a = none → H a ≠ none → ¬ ms i a → ¬ M1 a → B2 a = none := fun a b1 b2 b3 b4 => by
    cases q : B2 a with
    | none => rfl
    | some o =>
      rcases nw a o q with z | z | z | z
      · rw [b1] at z; cases z
      · exact absurd z b2
      · exact absurd z b3
      · exact absurd z b4
  have keep : ∀ a, H a ≠ none → ¬ ms i a → ¬ M1 a → H2 a = H a := fun a ha hn hm => by
    obtain ⟨o, ho⟩ := some_of_ne ha
    rw [ho]
    exact k a o ho hn hm
  have nF : ∀ a, F a → ¬ ms i a := fun a f m => h3 i a m (.inl f)
  have nF1 : ∀ a, F a → ¬ M1 a := fun a f m => hFM a m f
  have lv : ∀ j a, ms j a → H a ≠ none := fun j a hj => by
    have hl := h4 j a hj
    obtain ⟨t, ht⟩ : ∃ t, δ[j]? = some t := ⟨δ[j], List.getElem?_eq_getElem hl⟩
    have q := h1 j t ht
    cases t with
    | non => exact absurd hj (q a)
    | pu d => obtain ⟨_, _, _, hM⟩ := q; exact absurd hj (hM a)
    | ow R' => obtain ⟨u, e3, hP', hb'⟩ := q; exact R'.live hP' a hj
    | al _ => exact q.elim
  refine ⟨e2, by simp [S.len], fun a ha => ?_, fun a ha => ?_, updM ms i M', fun j t ht => ?_, fun j l a hj hl => ?_, fun j a hj hf => ?_, fun j a hj => ?_⟩
  · rcases ha with ha | ha
    · exact fb2 a (S.fb a (.inl ha)) (S.fl a (.inl ha)) (nF a ha) (nF1 a ha)
    · exact (hM2 a ha).2.1
  · rcases ha with ha | ha
    · rw [keep a (S.fl a (.inl ha)) (nF a ha) (nF1 a ha)]
      exact S.fl a (.inl ha)
    · exact (hM2 a ha).2.2.1
  · by_cases e : j = i
    · subst e
      rw [List.getElem?_set_self il] at ht
      cases ht
      rw [List.getElem?_set_self (by rw [S.len]; exact il), updM_eq rfl]
      exact hs
    · rw [List.getElem?_set_ne (Ne.symm e)] at ht ⊢
      rw [updM_ne e]
      have q := h1 j t ht
      cases t with
      | non => exact q
      | pu d => obtain ⟨u, e3, hd, hM⟩ := q; exact ⟨u, e3, dp_mono e1 _ _ hd, hM⟩
      | ow R' =>
        obtain ⟨u, e3, hP', hb'⟩ := q
        have nd : ∀ a, ms j a → ¬ ms i a := fun a p p' => e (h2 j i a p p')
        have nm : ∀ a, ms j a → ¬ M1 a := fun a p m => h3 j a p (.inr m)
        exact ⟨u, e3, R'.loc hP' e1 fun a ha => keep a (R'.live hP' a ha) (nd a ha) (nm a ha), fun a ha => fb2 a (hb' a ha) (R'.live hP' a ha) (nd a ha) (nm a ha)⟩
      | al _ => exact q
  · by_cases e : j = i <;> by_cases e3 : l = i
    · rw [e, e3]
    · rw [updM_eq e] at hj
      rw [updM_ne e3] at hl
      rcases hM a hj with z | z | z
      · exact absurd (h2 l i a hl z) e3
      · exact absurd (.inr z) (h3 l a hl)
      · exact absurd z (lv l a hl)
    · rw [updM_ne e] at hj
      rw [updM_eq e3] at hl
      rcases hM a hl with z | z | z
      · exact absurd (h2 j i a hj z) e
      · exact absurd (.inr z) (h3 j a hj)
      · exact absurd z (lv j a hj)
    · rw [updM_ne e] at hj
      rw [updM_ne e3] at hl
      exact h2 j l a hj hl
  · by_cases e : j = i
    · rw [updM_eq e] at hj
      rcases hf with hf | hf
      · rcases hM a hj with z | z | z
        · exact h3 i a z (.inl hf)
        · exact hFM a z hf
        · exact S.fl a (.inl hf) z
      · exact (hM2 a hf).2.2.2 hj
    · rw [updM_ne e] at hj
      rcases hf with hf | hf
      · exact h3 j a hj (.inl hf)
      · rcases (hM2 a hf).1 with z | z | z
        · exact e (h2 j i a hj z)
        · exact h3 j a hj (.inr z)
        · exact lv j a hj z
  · rw [List.length_set]
    by_cases e : j = i
    · rw [e]; exact il
    · rw [updM_ne e] at hj; exact h4 j a hj
/-- what stands in a slot is told otherwise -/
theorem Sd.res_ {i : Nat} {R R2 : Res} (S : Sd K B H σ δ F) (hi : δ[i]? = some (.ow R)) (h : ∀ v M, R.P v B H M → ∃ M', R2.P v B H M' ∧ ∀ a, M' a → M a) : Sd K B H σ (δ.set i (.ow R2)) F := by
  obtain ⟨v, M, ev, hP, hb, hF, op⟩ := S.opn hi
  obtain ⟨M', hP', hs⟩ := h v M hP
  have q := op B H (some v) (.ow R2) M' (Ex.refl _) S.bh (fun _ _ h _ => h) (fun _ _ h => .inl h) ⟨v, rfl, hP', fun a z => hb a (hs a z)⟩ (fun a z => .inl (hs a z))
  rwa [set_self ev] at q
theorem xs_res {i : Nat} {R R2 : Res} (hi : δ[i]? = some (.ow R)) (h : ∀ v B H M, R.P v B H M → ∃ M', R2.P v B H M' ∧ ∀ a, M' a → M a) (q : ExS K t d (δ.set i (.ow R2))) : ExS K t d δ := fun B H σ F D S L => q B H σ F D (S.res_ hi fun v M => h v B H M) L
theorem xs_any {α : Type} {f : α → Res} {i : Nat} (hi : δ[i]? = some (.ow (RAny f))) (q : ∀ x, ExS K t d (δ.set i (.ow (f x)))) : ExS K t d δ := fun B H σ F D S L => by
  obtain ⟨v, M, ev, ⟨x, hP⟩, hb, hF, op⟩ := S.opn hi
  have S' := op B H (some v) (.ow (f x)) M (Ex.refl _) S.bh (fun _ _ h _ => h) (fun _ _ h => .inl h) ⟨v, rfl, hP, hb⟩ (fun a z => .inl z)
  rw [set_self ev] at S'
  exact q x B H σ F D S' L
theorem ev_alR {i : Nat} {a : Addr} (hi : δ[i]? = some (.ow (RRef a))) (h : Φ (.ow (RRef a)) δ) : EvS K (tVar i) δ Φ := fun B H σ F Q S k => by
  obtain ⟨v, M, e, hP, _⟩ := S.opn hi
  exact ⟨v, e, k v (fun _ => False) (.ow (RRef a)) B H δ (Ex.refl _) (fun _ _ => rfl) (S.less fun a z => z.elim id False.elim) ⟨hP.1, fun _ z => z⟩ (fun _ z => z.elim) h⟩
/-- a field is given a new list, whatever its address is -/
def PutN (K : PySem.W.Frag) (R : Res) (R' : Addr → Res) (a : Addr) (f : Str) (ds : List PyData) : Prop := ∀ v B H M r xs, R.P v B H M → H r = some (.lst xs) → DpAll K B xs ds → ¬ M r → ∃ C dx fs, H a = some (.ins C dx fs) ∧ M a ∧ Cls K C ∧ NoAttr K C f ∧ fs.length < 1000 ∧ ∃ M', (R' r).P v B (upd H a (.ins C dx (putF f (.ref r) fs))) M' ∧ ∀ c, M' c → M c ∨ c = r
theorem xs_fldN {f : Str} (h : EvS K tb δ fun s1 δ1 => ∃ ds, s1 = .ow (RL K ds) ∧ EvS K ta δ1 fun s δ2 => ∃ (i : Nat) (R : Res) (R' : Addr → Res) (a : Addr), At δ2 s i R a ∧ PutN K R R' a f ds ∧ ∀ r, d.nx (δ2.set i (.ow (R' r)))) : ExS K (sFld K ta tb f) d δ := fun B H σ F D S L =>
  h B H σ F _ S fun v M1 s1 B1 H1 δ1 e1 f1 S1 w1 n1 ⟨ds, es, p⟩ => p B1 H1 σ _ _ S1 fun u M s B2 H2 δ2 e2 f2 S2 wk n ⟨i, R, R', a, ha, hp, q⟩ => by
    subst es
    obtain ⟨r, xs, rfl, hr, hx, hM1⟩ := w1
    obtain ⟨rfl, _⟩ := at_ref S2 wk ha
    have S2' : Sd K B2 H2 σ δ2 (fun a => F a ∨ M1 a) := S2.less fun c z => .inl z
    obtain ⟨v', M', ev, hP, hb, hdis, op⟩ := S2'.chg (fun c hc hf => n1 c hc hf) ha.1
    have hr2 : H2 r = some (.lst xs) := by rw [f2 r (.inr ((hM1 r).mpr rfl))]; exact hr
    obtain ⟨C, dx, fs, g1, g2, g3, g4, g5, M3, g6, g7⟩ := hp _ _ _ _ r xs hP hr2 (dpa_mono e2 _ _ hx) (fun hm => (hdis r hm).2 ((hM1 r).mpr rfl))
    have hM1b : ∀ c, M1 c → B2 c = none := fun c hc => S2'.fb c (.inr hc)
    have S3 := op B2 (upd H2 a (.ins C dx (putF f (.ref r) fs))) (some v') (.ow (R' r)) M3 (fun _ => False) (Ex.refl _) (fun c u hc => by
      rw [upd_ne (fun e => by rw [e, hb a g2] at hc; cases hc)]
      exact S2.bh c u hc) (fun c o hc hn _ => by rw [upd_ne (fun e => hn (by rw [e]; exact g2))]; exact hc) (fun _ _ z => .inl z) ⟨v', rfl, g6, fun c hc => (g7 c hc).elim (hb c) fun z => hM1b c ((hM1 c).mpr z)⟩ (fun c hc => (g7 c hc).imp id fun z => .inl ((hM1 c).mpr z)) (fun c z => z.elim)
    rw [set_self ev] at S3
    exact ⟨a, C, dx, fs, rfl, g1, g3, g4, g5, L.nx B2 _ σ _ (e1.trans e2) (fun c z => by rw [upd_ne (fun e => (hdis a g2).1 (by rw [← e]; exact z)), f2 c (.inl z), f1 c z]) (S3.less fun c z => .inl z) (q r)⟩
/-! ### loops whose items may be references -/
def CV.slot : CV → Slot
  | .d x => .pu x
  | .r a => .ow (RRef a)
def setC (δ : List Slot) : List (Nat × CV) → List Slot
  | [] => δ
  | p :: ps => setC (δ.set p.1 p.2.slot) ps
theorem Sd.put_cv {i : Nat} {v : V} {c : CV} (S : Sd K B H σ δ F) (h : CvOk K B v c) (hi : i < δ.length) : Sd K B H (σ.set i (some v)) (δ.set i c.slot) F := by
  cases c with
  | d x => exact S.put_pu h hi
  | r a => exact S.put (M := fun _ => False) ⟨v, rfl, ⟨h, fun _ z => z⟩, fun _ z => z.elim⟩ (fun _ _ _ _ _ z => z.elim) (fun _ z => z.elim) hi
theorem Sd.putCs : ∀ {as : List (Nat × CV)} {us : List V} {σ : L2.St} {δ : List Slot}, Sd K B H σ δ F → CvAll K B us (as.map (·.2)) → (∀ p ∈ as, p.1 < δ.length) → Sd K B H (setV σ (as.map (·.1)) us) (setC δ as) F
  | [], us, σ, δ, S, h, _ => by cases h; exact S
  | p :: ps, us, σ, δ, S, h, hl => by
    cases h with
    | @cons u0 _ ur _ r t =>
      show Sd K B H (setV (σ.set p.1 (some u0)) (ps.map (·.1)) ur) (setC (δ.set p.1 p.2.slot) ps) F
      exact Sd.putCs (S.put_cv r (hl p (List.mem_cons_self ..))) t fun q hq => by rw [List.length_set]; exact hl q (List.mem_cons_of_mem _ hq)
/-- the target g takes what spec tells: the names of as are set -/
def TgC (K : PySem.W.Frag) (g : TG) (spec : Hp → V → Prop) (as : List (Nat × CV)) : Prop := ∀ (B H : Hp) (v : V) (σ : L2.St) (Q : L2.St → Hp → Prop), Ex B H → spec B v → (∀ us, CvAll K B us (as.map (·.2)) → Q (setV σ (as.map (·.1)) us) H) → g v σ H Q
theorem tc_name {j : Nat} {c : CV} : TgC K (gName j) (fun B v => CvOk K B v c) [(j, c)] := fun B H v σ Q e h k => k [v] (.cons h .nil)
theorem tc_two {a b : Nat} {x y : CV} : TgC K (gTup K 2 (gCons (gName a) (gCons (gName b) gNil))) (fun B v => ∃ T u1 u2, v = .ref T ∧ B T = some (.tup [u1, u2]) ∧ CvOk K B u1 x ∧ CvOk K B u2 y) [(a, x), (b, y)] := fun B H v σ Q e ⟨T, u1, u2, ev, hT, h1, h2⟩ k => by
  subst ev
  exact ⟨T, _, rfl, Evl.ex_t e (SqT.of hT), rfl, _, _, rfl, _, _, rfl, rfl, k [_, _] (.cons h1 (.cons h2 .nil))⟩
def TurnG (K : PySem.W.Frag) (g : TG) (t : TS) (d : Dn) (spec : Hp → V → Prop) (nxt : List Slot → Prop) (δ : List Slot) : Prop :=
  ∃ as, TgC K g spec as ∧ (∀ p ∈ as, p.1 < δ.length) ∧ ExS K t { d with nx := nxt, ct := nxt, bk := d.nx } (setC δ as)
theorem for_coreG {n : Nat} {spec : Nat → Hp → V → Prop} {g : TG} {J : It} {D : Ends} (Pv : Nat → List Slot → Prop) (S : Sd K B H σ δ F) (F0 : Addr → Prop) (hF : ∀ a, F0 a → F a) (L : Lift K B H F0 d D) (h0 : Pv 0 δ)
    (hgo : ∀ i, i < n → ∀ B' H' σ' δ', Ex B B' → (∀ a, F a → H' a = H a) → Sd K B' H' σ' δ' F → Pv i δ' → J.go i H' ∧ ∀ x H2, J.yld i H' x H2 → ∃ B2, Gr B' H' B2 H2 ∧ spec i B2 x)
    (hst : ∀ B' H' σ' δ', Ex B B' → (∀ a, F a → H' a = H a) → Sd K B' H' σ' δ' F → Pv n δ' → J.stop n H')
    (hs : ∀ i δ', i < n → Pv i δ' → TurnG K g t d (spec i) (Pv (i + 1)) δ') (hd : ∀ δ', Pv n δ' → d.nx δ') :
    ∃ W : Nat → Nat → L2.St → Hp → Prop, (∃ m, W 0 m σ H) ∧ ∀ i m σ H, W i m σ H →
      (J.stop i H ∧ D.nx σ H) ∨ (J.go i H ∧ ∃ N : L2.St → Hp → Prop, (∀ σ' H', N σ' H' → ∃ m', m' < m ∧ W (i + 1) m' σ' H') ∧ ∀ x H', J.yld i H x H' → g x σ H' fun σ2 H2 => t { D with nx := N, ct := N, bk := D.nx } σ2 H2) := by
  refine ⟨fun i m σ' H' => m = n - i ∧ i ≤ n ∧ ∃ B' δ', Ex B B' ∧ (∀ a, F a → H' a = H a) ∧ Sd K B' H' σ' δ' F ∧ Pv i δ', ⟨n, rfl, Nat.zero_le _, B, δ, Ex.refl _, fun _ _ => rfl, S, h0⟩, ?_⟩
  rintro i m σ' H' ⟨rfl, hi, B', δ', e, f, S', p⟩
  by_cases hlt : i < n
  · obtain ⟨g1, g2⟩ := hgo i hlt B' H' σ' δ' e f S' p
    refine .inr ⟨g1, fun σ2 H2 => ∃ B2 δ2, Ex B B2 ∧ (∀ a, F a → H2 a = H a) ∧ Sd K B2 H2 σ2 δ2 F ∧ Pv (i + 1) δ2, fun σ2 H2 ⟨B2, δ2, q⟩ => ⟨n - (i + 1), by omega, rfl, hlt, B2, δ2, q⟩, fun x H2 hy => ?_⟩
    obtain ⟨B2, gr, hx⟩ := g2 x H2 hy
    obtain ⟨as, hg, hl, hb⟩ := hs i δ' hlt p
    have S2 := S'.grow gr
    have f2 : ∀ a, F a → H2 a = H a := fun a z => (ex_eq gr.h (S'.fl a z)).trans (f a z)
    refine hg B2 H2 x σ' _ S2.bh hx fun us hu => ?_
    refine hb B2 H2 _ F _ (S2.putCs hu hl) ⟨fun B3 H3 σ3 δ3 e3 f3 S3 q => ⟨B3, δ3, (e.trans gr.b).trans e3, fun a z => (f3 a z).trans (f2 a z), S3, q⟩, fun B3 H3 σ3 δ3 e3 f3 S3 q => ?_,
      fun B3 H3 σ3 δ3 e3 f3 S3 q => ⟨B3, δ3, (e.trans gr.b).trans e3, fun a z => (f3 a z).trans (f2 a z), S3, q⟩, fun v M s B3 H3 σ3 δ3 e3 f3 S3 w n q => ?_, fun E p B3 H3 σ3 δ3 cls dd e3 f3 S3 q w => L.ex E p B3 H3 σ3 δ3 cls dd ((e.trans gr.b).trans e3) (fun a z => (f3 a (hF a z)).trans (f2 a (hF a z))) (S3.less hF) q w⟩
    · exact L.nx B3 H3 σ3 δ3 ((e.trans gr.b).trans e3) (fun a z => (f3 a (hF a z)).trans (f2 a (hF a z))) (S3.less hF) q
    · exact L.rt v M s B3 H3 σ3 δ3 ((e.trans gr.b).trans e3) (fun a z => (f3 a (hF a z)).trans (f2 a (hF a z))) (S3.less fun a z => z.elim (fun z => .inl (hF a z)) .inr) w (fun a z z2 => n a z (hF a z2)) q
  · have e1 : i = n := by omega
    subst e1
    exact .inl ⟨hst B' H' σ' δ' e f S' p, L.nx B' H' σ' δ' e (fun a z => f a (hF a z)) (S'.less hF) (hd δ' p)⟩
/-- for x in a list that is shown, what is owned may change meanwhile -/
theorem xs_forS {g : TG} (h : EvS K te δ fun s δ1 => ∃ (b : Addr) (ds : List PyData), s = .ow (RRef b) ∧ ∃ Pv : Nat → List Slot → Prop, (∀ i δ', Pv i δ' → ∃ (j : Nat) (R : Res), δ'[j]? = some (.ow R) ∧ Shows K R b ds) ∧ Pv 0 δ1 ∧ (∀ (i : Nat) y δ', ds[i]? = some y → Pv i δ' → Turn1 K g t d y (Pv (i + 1)) δ') ∧ ∀ δ', Pv ds.length δ' → d.nx δ') : ExS K (tFor (iList K te) g t) d δ := fun B H σ F D S L =>
  h B H σ F _ S fun v M s B2 H2 δ1 e f S2 wk n ⟨b, ds, es, Pv, hsh, h0, hs, hn⟩ => by
    subst es
    obtain ⟨rfl, hM⟩ := wk
    have S2' : Sd K B2 H2 σ δ1 F := S2.less fun a z => .inl z
    have look : ∀ i B' H' σ' δ', Sd K B' H' σ' δ' F → Pv i δ' → ∃ xs, SqL K H' b xs ∧ DpAll K B' xs ds := fun i B' H' σ' δ' S' p => by
      obtain ⟨j, R, hj, sh⟩ := hsh i δ' p
      obtain ⟨v', M', ev, hP, _⟩ := S'.opn hj
      obtain ⟨xs, h1, h2⟩ := sh _ _ _ _ hP
      exact ⟨xs, SqL.of h1, h2⟩
    obtain ⟨xs0, hx0, _⟩ := look 0 _ _ _ _ S2' h0
    refine ⟨b, rfl, ⟨xs0, hx0⟩, ?_⟩
    refine for_core (n := ds.length) (item := fun i => ds.getD i .none) Pv S2' F (fun a z => z) (L.step e f) h0 (fun i hi B' H' σ' δ' e' f' S' p' => ?_) (fun B' H' σ' δ' e' f' S' p' => ?_) (fun i δ' hi q => hs i _ δ' (by rw [List.getD_eq_getElem?_getD, List.getElem?_eq_getElem hi]; rfl) q) hn
    · obtain ⟨xs, hq', ha⟩ := look i _ _ _ _ S' p'
      obtain ⟨w, hw, hdw⟩ := dpa_get ha (List.getElem?_eq_getElem hi)
      refine ⟨⟨xs, w, hq', hw⟩, fun y H3 hy => ?_⟩
      obtain ⟨e1, e2⟩ := hy
      subst e1
      refine ⟨B', Gr.refl S'.bh, ?_⟩
      have e3 := (e2 xs hq').symm.trans hw
      cases e3
      rw [List.getD_eq_getElem?_getD, List.getElem?_eq_getElem hi]
      exact hdw
    · obtain ⟨xs, hq', ha⟩ := look _ _ _ _ _ S' p'
      exact ⟨xs, hq', Nat.le_of_eq (dpa_len ha)⟩
/-- for x in a list of references that is shown -/
theorem xs_forRf {g : TG} (h : EvS K te δ fun s δ1 => ∃ (b : Addr) (as : List Addr), s = .ow (RRef b) ∧ ∃ Pv : Nat → List Slot → Prop, (∀ i δ', Pv i δ' → ∃ (j : Nat) (R : Res), δ'[j]? = some (.ow R) ∧ ShowsR R b as) ∧ Pv 0 δ1 ∧ (∀ (i : Nat) a δ', as[i]? = some a → Pv i δ' → TurnG K g t d (fun _ v => v = .ref a) (Pv (i + 1)) δ') ∧ ∀ δ', Pv as.length δ' → d.nx δ') : ExS K (tFor (iList K te) g t) d δ := fun B H σ F D S L =>
  h B H σ F _ S fun v M s B2 H2 δ1 e f S2 wk n ⟨b, as, es, Pv, hsh, h0, hs, hn⟩ => by
    subst es
    obtain ⟨rfl, hM⟩ := wk
    have S2' : Sd K B2 H2 σ δ1 F := S2.less fun a z => .inl z
    have look : ∀ i B' H' σ' δ', Sd K B' H' σ' δ' F → Pv i δ' → SqL K H' b (as.map V.ref) := fun i B' H' σ' δ' S' p => by
      obtain ⟨j, R, hj, sh⟩ := hsh i δ' p
      obtain ⟨v', M', ev, hP, _⟩ := S'.opn hj
      exact SqL.of (sh _ _ _ _ hP)
    refine ⟨b, rfl, ⟨_, look 0 _ _ _ _ S2' h0⟩, ?_⟩
    refine for_coreG (n := as.length) (spec := fun i _ v => v = .ref (as.getD i 0)) Pv S2' F (fun a z => z) (L.step e f) h0 (fun i hi B' H' σ' δ' e' f' S' p' => ?_) (fun B' H' σ' δ' e' f' S' p' => ?_) (fun i δ' hi q => hs i _ δ' (by rw [List.getD_eq_getElem?_getD, List.getElem?_eq_getElem hi]; rfl) q) hn
    · have hq' := look i _ _ _ _ S' p'
      have hw : (as.map V.ref)[i]? = some (.ref (as.getD i 0)) := by rw [List.getElem?_map, List.getD_eq_getElem?_getD, List.getElem?_eq_getElem hi]; rfl
      refine ⟨⟨_, _, hq', hw⟩, fun y H3 hy => ?_⟩
      obtain ⟨e1, e2⟩ := hy
      subst e1
      refine ⟨B', Gr.refl S'.bh, ?_⟩
      have e3 := (e2 _ hq').symm.trans hw
      exact Option.some.inj e3
    · exact ⟨_, look _ _ _ _ _ S' p', by rw [List.length_map]; exact Nat.le_refl _⟩
/-- for i, x in enumerate(a list of references that is shown) -/
theorem xs_forRE {a b : Nat} (h : EvS K te δ fun s δ1 => ∃ (r : Addr) (as : List Addr), s = .ow (RRef r) ∧ ∃ Pv : Nat → List Slot → Prop, (∀ i δ', Pv i δ' → ∃ (j : Nat) (R : Res), δ'[j]? = some (.ow R) ∧ ShowsR R r as) ∧ Pv 0 δ1 ∧ (∀ (i : Nat) x δ', as[i]? = some x → Pv i δ' → a < δ'.length ∧ b < δ'.length ∧ ExS K t { d with nx := Pv (i + 1), ct := Pv (i + 1), bk := d.nx } ((δ'.set a (.pu (.int (i : Int)))).set b (.ow (RRef x)))) ∧ ∀ δ', Pv as.length δ' → d.nx δ') : ExS K (tFor (iEnum K (tCons te tNil)) (gTup K 2 (gCons (gName a) (gCons (gName b) gNil))) t) d δ := fun B H σ F D S L =>
  h B H σ F _ S fun v M s B2 H2 δ1 e f S2 wk n ⟨r, as, es, Pv, hsh, h0, hs, hn⟩ => by
    subst es
    obtain ⟨rfl, hM⟩ := wk
    have S2' : Sd K B2 H2 σ δ1 F := S2.less fun a z => .inl z
    have look : ∀ i B' H' σ' δ', Sd K B' H' σ' δ' F → Pv i δ' → SqL K H' r (as.map V.ref) := fun i B' H' σ' δ' S' p => by
      obtain ⟨j, R, hj, sh⟩ := hsh i δ' p
      obtain ⟨v', M', ev, hP, _⟩ := S'.opn hj
      exact SqL.of (sh _ _ _ _ hP)
    refine ⟨r, _, rfl, look 0 _ _ _ _ S2' h0, ?_⟩
    refine for_coreG (n := as.length) (spec := fun i B v => ∃ T u1 u2, v = .ref T ∧ B T = some (.tup [u1, u2]) ∧ CvOk K B u1 (.d (.int (i : Int))) ∧ CvOk K B u2 (.r (as.getD i 0))) Pv S2' F (fun a z => z) (L.step e f) h0 (fun i hi B' H' σ' δ' e' f' S' p' => ?_) (fun B' H' σ' δ' e' f' S' p' => ?_) (fun i δ' hi q => ?_) hn
    · have hq' := look i _ _ _ _ S' p'
      have hw : (as.map V.ref)[i]? = some (.ref (as.getD i 0)) := by rw [List.getElem?_map, List.getD_eq_getElem?_getD, List.getElem?_eq_getElem hi]; rfl
      refine ⟨⟨_, _, hq', hw⟩, fun y H3 hy => ?_⟩
      obtain ⟨T, x', e1, hT, e2, e3⟩ := hy
      subst e1 e2
      have e4 := (e3 _ hq').symm.trans hw
      cases e4
      have gr := Gr.new (o := .tup [.int (i : Nat), .ref (as.getD i 0)]) S'.bh hT
      exact ⟨_, gr, T, _, _, rfl, upd_same, .int _, rfl⟩
    · exact ⟨_, look _ _ _ _ _ S' p', by rw [List.length_map]; exact Nat.le_refl _⟩
    · obtain ⟨h1, h2, h3⟩ := hs i (as.getD i 0) δ' (by rw [List.getD_eq_getElem?_getD, List.getElem?_eq_getElem hi]; rfl) q
      exact ⟨[(a, .d (.int (i : Int))), (b, .r (as.getD i 0))], tc_two, fun p hp => by
        rcases List.mem_cons.mp hp with rfl | hp
        · exact h1
        · rw [List.mem_singleton.mp hp]; exact h2, h3⟩
theorem turnG_name {j : Nat} {a : Addr} {nxt : List Slot → Prop} (hj : j < δ.length) (h : ExS K t { d with nx := nxt, ct := nxt, bk := d.nx } (δ.set j (.ow (RRef a)))) : TurnG K (gName j) t d (fun _ v => v = .ref a) nxt δ :=
  ⟨[(j, .r a)], fun B H v σ Q e h k => k [v] (.cons h .nil), fun p hp => by rw [List.mem_singleton.mp hp]; exact hj, h⟩
end
end Dl

/-! Dl15: defs and methods whose first argument is owned and may change; making of instances. -/
namespace Dl
open PySem PySem.Spec PyProof.Rows L2
open Evl (Ex)
/-- a def or method whose first argument is owned: R i ahead, R i' behind -/
def spM (K : PySem.W.Frag) {I : Type} (adr : I → Addr) (R : I → Res) (n : Nat) (pre : I → List PyData → Prop) (T : I → List PyData → I → Slot → Prop) : Sp := fun vs H Q _ =>
  ∃ (B : Hp) (i : I) (M : Addr → Prop) (rest : List V) (ds : List PyData), vs = .ref (adr i) :: rest ∧ Ex B H ∧ (R i).P (.ref (adr i)) B H M ∧ (∀ a, M a → B a = none) ∧ DpAll K B rest ds ∧ ds.length = n ∧ pre i ds ∧
    ∀ (w : V) (B2 H2 : Hp) (i' : I) (M2 : Addr → Prop) (s : Slot) (Ms : Addr → Prop), Ex B B2 → Ex B2 H2 → (∀ a o, H a = some o → ¬ M a → H2 a = some o) → (∀ a o, B2 a = some o → B a = some o ∨ H a = none ∨ M a) → adr i' = adr i → (R i').P (.ref (adr i)) B2 H2 M2 →
      (∀ a, M2 a → (M a ∨ H a = none) ∧ B2 a = none) → VOk K [] [] B2 H2 w Ms s → (∀ a, Ms a → (M a ∨ H a = none) ∧ B2 a = none ∧ ¬ M2 a) → T i ds i' s → Q w H2
theorem spM_len {K : PySem.W.Frag} {I : Type} {adr : I → Addr} {R : I → Res} {n : Nat} {pre : I → List PyData → Prop} {T : I → List PyData → I → Slot → Prop} {vs : List V} {H : Hp} {Q : VK} {E : XK} (h : spM K adr R n pre T vs H Q E) : vs.length = n + 1 := by
  obtain ⟨B, i, M, rest, ds, rfl, _, _, _, ha, hn, _⟩ := h
  rw [List.length_cons, dpa_len ha, hn]
/-- a part of what is owned, and how the whole is with another part in its place -/
def Foc {I : Type} (adr : I → Addr) (Rf R : I → Res) (i : I) : Prop := ∀ v B H M, (Rf i).P v B H M → ∃ M1, (R i).P (.ref (adr i)) B H M1 ∧ (∀ c, M1 c → M c) ∧
  ∀ (i' : I) (B2 H2 : Hp) (M1' : Addr → Prop), adr i' = adr i → Ex B B2 → (∀ c, M c → ¬ M1 c → H2 c = H c) → (R i').P (.ref (adr i)) B2 H2 M1' → (∀ c, M1' c → M1 c ∨ H c = none) → (Rf i').P v B2 H2 (fun c => (M c ∧ ¬ M1 c) ∨ M1' c)
theorem foc_self {I : Type} {adr : I → Addr} {R : I → Res} {i : I} (hat : ∀ i v B H M, (R i).P v B H M → v = .ref (adr i)) : Foc adr R R i := fun v B H M h => by
  have e := hat i v B H M h
  subst e
  refine ⟨M, h, fun _ z => z, fun i' B2 H2 M1' ea e1 k h' hm => ?_⟩
  have e2 : (fun c => (M c ∧ ¬ M c) ∨ M1' c) = M1' := funext fun c => propext ⟨fun z => z.elim (fun z => absurd z.1 z.2) id, .inr⟩
  rw [e2]
  exact h'
theorem VOk.any {K : PySem.W.Frag} {σ : L2.St} {δ : List Slot} {B H : Hp} {v : V} {M : Addr → Prop} {s : Slot} (h : VOk K [] [] B H v M s) : VOk K σ δ B H v M s := by
  cases s with
  | non => exact h
  | pu d => exact h
  | ow R => exact h
  | al i => cases h.1
theorem VOk.lives {K : PySem.W.Frag} {B H : Hp} {v : V} {M : Addr → Prop} {s : Slot} (h : VOk K [] [] B H v M s) (a : Addr) (ha : M a) : H a ≠ none := by
  cases s with
  | non => exact h.elim
  | pu d => exact absurd ha (h.2 a)
  | ow R => exact R.live h a ha
  | al i => cases h.1
section
variable {K : PySem.W.Frag} {w : World} {δ : List Slot} {te ta tb tc : TE} {tr : TA} {tt : TT} {t u : TS} {d : Dn} {Φ : Slot → List Slot → Prop} {B H : Hp} {σ : L2.St} {F : Addr → Prop} {I : Type} {adr : I → Addr} {R : I → Res} {n : Nat} {pre : I → List PyData → Prop} {T : I → List PyData → I → Slot → Prop} {E : XK}
theorem spM_call {j : Nat} {i : I} {rest : List V} {ds : List PyData} {Q : VK} (Rf : I → Res) (S : Sd K B H σ δ F) (hj : δ[j]? = some (.ow (Rf i))) (foc : Foc adr Rf R i) (ha : DpAll K B rest ds) (hn : ds.length = n) (hp : pre i ds)
    (k : ∀ (w : V) (i' : I) (s : Slot) (Ms : Addr → Prop) (B2 H2 : Hp), adr i' = adr i → Ex B B2 → (∀ a, F a → H2 a = H a) → Sd K B2 H2 σ (δ.set j (.ow (Rf i'))) (fun a => F a ∨ Ms a) → VOk K [] [] B2 H2 w Ms s → (∀ a, Ms a → ¬ F a) → T i ds i' s → Q w H2) : spM K adr R n pre T (.ref (adr i) :: rest) H Q E := by
  obtain ⟨v, M, ev, hP, hb, hF, op⟩ := (S.less (F := fun a => F a ∨ False) fun a z => z.elim id False.elim).chg (fun a z => z.elim) hj
  obtain ⟨M1, hP1, sub, back⟩ := foc _ _ _ _ hP
  refine ⟨B, i, M1, rest, ds, rfl, S.bh, hP1, fun a z => hb a (sub a z), ha, hn, hp, fun w B2 H2 i' M2 s Ms e1 e2 k1 k2 ea hP2 hM2 hw hMs hT => ?_⟩
  have keep : ∀ c, H c ≠ none → ¬ M1 c → H2 c = H c := fun c hc hn => by
    obtain ⟨o, ho⟩ := some_of_ne hc
    rw [ho]
    exact k1 c o ho hn
  have P' := back i' B2 H2 M2 ea e1 (fun c hc hnc => keep c ((Rf i).live hP c hc) hnc) hP2 (fun c hc => (hM2 c hc).1)
  have b2n : ∀ c, M c → ¬ M1 c → B2 c = none := fun c hc hn => by
    cases q : B2 c with
    | none => rfl
    | some o =>
      rcases k2 c o q with z | z | z
      · rw [hb c hc] at z; cases z
      · exact absurd z ((Rf i).live hP c hc)
      · exact absurd z hn
  have S' := op B2 H2 (some v) (.ow (Rf i')) (fun c => (M c ∧ ¬ M1 c) ∨ M2 c) Ms e1 e2 (fun a o ho hn _ => k1 a o ho fun z => hn (sub a z)) (fun a o ho => (k2 a o ho).imp id fun z => z.imp id fun z => .inl (sub a z)) ⟨v, rfl, P', fun a z => z.elim (fun z => b2n a z.1 z.2) fun z => (hM2 a z).2⟩
    (fun a z => z.elim (fun z => .inl z.1) fun z => (hM2 a z).1.elim (fun z => .inl (sub a z)) fun z => .inr (.inr z))
    (fun a z => ⟨(hMs a z).1.elim (fun z => .inl (sub a z)) fun z => .inr (.inr z), (hMs a z).2.1, hw.lives a z, fun y => y.elim (fun y => (hMs a z).1.elim (fun x => y.2 x) fun x => (Rf i).live hP a y.1 x) (hMs a z).2.2⟩)
  rw [set_self ev] at S'
  refine k w i' s Ms B2 H2 ea e1 (fun a z => keep a (S.fl a z) fun m => (hF a (sub a m)).1 z) S' hw (fun a z f => ?_) hT
  rcases (hMs a z).1 with y | y
  · exact (hF a (sub a y)).1 f
  · exact S.fl a f y
/-- o.m(..), o a name that owns -/
theorem ev_methW {C : Addr} {m : Str} {j : Nat} (hat : ∀ i v B H M, (R i).P v B H M → v = .ref (adr i) ∧ ∃ dx fs, H (adr i) = some (.ins C dx fs) ∧ fs.lookup m = none)
    (h : ∃ i, δ[j]? = some (.ow (R i)) ∧ EvDs K tr δ fun ds δ1 => ∃ i, δ1[j]? = some (.ow (R i)) ∧ ds.length = n ∧ pre i ds ∧ ∀ i' s, adr i' = adr i → T i ds i' s → Φ s (δ1.set j (.ow (R i')))) : EvS K (tMeth C m (spM K adr R n pre T) [] E (tVar j) tr) δ Φ := fun B H σ F Q S k => by
  obtain ⟨i0, h0, h⟩ := h
  obtain ⟨v, M, ev, hP, _⟩ := S.opn h0
  obtain ⟨rfl, dx, fs, hi, hl⟩ := hat _ _ _ _ _ hP
  refine ⟨_, ev, adr i0, dx, fs, rfl, hi, hl, h B H σ F _ S fun vs ds B2 H2 δ1 e f S2 ha ⟨i, hj, hn, hp, q⟩ => ?_⟩
  obtain ⟨v', M', ev', hP', _⟩ := S2.opn hj
  obtain ⟨rfl, _⟩ := hat _ _ _ _ _ hP'
  rw [ev] at ev'
  have ea : adr i0 = adr i := V.ref.inj (Option.some.inj (Option.some.inj ev'))
  rw [List.append_nil, ea]
  exact spM_call R S2 hj (foc_self fun i v B H M h => (hat i v B H M h).1) ha hn hp fun w i' s Ms B3 H3 ea' e3 f3 S3 hw hF hT => k w Ms s B3 H3 _ (e.trans e3) (fun a z => (f3 a z).trans (f a z)) S3 hw.any hF (q i' s ea' hT)
/-- f(o, ..), o a name that owns -/
theorem ev_callM {j : Nat} (hat : ∀ i v B H M, (R i).P v B H M → v = .ref (adr i)) (h : ∃ i, δ[j]? = some (.ow (R i)) ∧ EvDs K tr δ fun ds δ1 => ∃ i, δ1[j]? = some (.ow (R i)) ∧ ds.length = n ∧ pre i ds ∧ ∀ i' s, adr i' = adr i → T i ds i' s → Φ s (δ1.set j (.ow (R i')))) : EvS K (tCall (spM K adr R n pre T) [] E (tCons (tVar j) tr)) δ Φ := fun B H σ F Q S k => by
  obtain ⟨i0, h0, h⟩ := h
  obtain ⟨v, M, ev, hP, _⟩ := S.opn h0
  obtain rfl := hat _ _ _ _ _ hP
  refine ⟨_, ev, h B H σ F _ S fun vs ds B2 H2 δ1 e f S2 ha ⟨i, hj, hn, hp, q⟩ => ?_⟩
  obtain ⟨v', M', ev', hP', _⟩ := S2.opn hj
  obtain rfl := hat _ _ _ _ _ hP'
  rw [ev] at ev'
  have ea : adr i0 = adr i := V.ref.inj (Option.some.inj (Option.some.inj ev'))
  show spM K adr R n pre T (.ref (adr i0) :: vs ++ []) H2 Q E
  rw [List.append_nil, ea]
  exact spM_call R S2 hj (foc_self hat) ha hn hp fun w i' s Ms B3 H3 ea' e3 f3 S3 hw hF hT => k w Ms s B3 H3 _ (e.trans e3) (fun a z => (f3 a z).trans (f a z)) S3 hw.any hF (q i' s ea' hT)
/-- the instance at a, of the class at C, that R owns -/
def InsAt (R : Res) (a C : Addr) (m : Str) : Prop := ∀ v B H M, R.P v B H M → ∃ dx fs, H a = some (.ins C dx fs) ∧ fs.lookup m = none
/-- o.m(..), o a reference into what is owned -/
theorem ev_methR {C : Addr} {m : Str} (h : EvS K ta δ fun s δ1 => ∃ (a : Addr) (j0 : Nat) (Rj : Res), s = .ow (RRef a) ∧ δ1[j0]? = some (.ow Rj) ∧ InsAt Rj a C m ∧ EvDs K tr δ1 fun ds δ2 => ∃ (j : Nat) (Rf : I → Res) (i : I), adr i = a ∧ δ2[j]? = some (.ow (Rf i)) ∧ Foc adr Rf R i ∧ ds.length = n ∧ pre i ds ∧ ∀ i' s', adr i' = adr i → T i ds i' s' → Φ s' (δ2.set j (.ow (Rf i')))) : EvS K (tMeth C m (spM K adr R n pre T) [] E ta tr) δ Φ := fun B H σ F Q S k =>
  h B H σ F _ S fun v M s B1 H1 δ1 e1 f1 S1 wk nF ⟨a, j0, Rj, es, h0, hi, p⟩ => by
    subst es
    obtain ⟨rfl, hM⟩ := wk
    have S1' : Sd K B1 H1 σ δ1 F := S1.less fun a z => .inl z
    obtain ⟨v0, M0, ev0, hP0, _⟩ := S1'.opn h0
    obtain ⟨dx, fs, g1, g2⟩ := hi _ _ _ _ hP0
    refine ⟨a, dx, fs, rfl, g1, g2, p B1 H1 σ F _ S1' fun vs ds B2 H2 δ2 e f S2 ha ⟨j, Rf, i, ea, hj, foc, hn, hp, q⟩ => ?_⟩
    subst ea
    rw [List.append_nil]
    exact spM_call Rf S2 hj foc ha hn hp fun w i' s Ms B3 H3 ea' e3 f3 S3 hw hF hT => k w Ms s B3 H3 _ ((e1.trans e).trans e3) (fun a z => (f3 a z).trans ((f a z).trans (f1 a z))) S3 hw.any hF (q i' s ea' hT)
/-- f(o, ..), o a reference into what is owned -/
theorem ev_callMR (h : EvS K ta δ fun s δ1 => ∃ a : Addr, s = .ow (RRef a) ∧ EvDs K tr δ1 fun ds δ2 => ∃ (j : Nat) (Rf : I → Res) (i : I), adr i = a ∧ δ2[j]? = some (.ow (Rf i)) ∧ Foc adr Rf R i ∧ ds.length = n ∧ pre i ds ∧ ∀ i' s', adr i' = adr i → T i ds i' s' → Φ s' (δ2.set j (.ow (Rf i')))) : EvS K (tCall (spM K adr R n pre T) [] E (tCons ta tr)) δ Φ := fun B H σ F Q S k =>
  h B H σ F _ S fun v M s B1 H1 δ1 e1 f1 S1 wk nF ⟨a, es, p⟩ => by
    subst es
    obtain ⟨rfl, hM⟩ := wk
    have S1' : Sd K B1 H1 σ δ1 F := S1.less fun a z => .inl z
    refine p B1 H1 σ F _ S1' fun vs ds B2 H2 δ2 e f S2 ha ⟨j, Rf, i, ea, hj, foc, hn, hp, q⟩ => ?_
    subst ea
    show spM K adr R n pre T (.ref (adr i) :: vs ++ []) H2 Q E
    rw [List.append_nil]
    exact spM_call Rf S2 hj foc ha hn hp fun w i' s Ms B3 H3 ea' e3 f3 S3 hw hF hT => k w Ms s B3 H3 _ ((e1.trans e).trans e3) (fun a z => (f3 a z).trans ((f a z).trans (f1 a z))) S3 hw.any hF (q i' s ea' hT)
/-- C(..) -/
theorem ev_make {C : Addr} (h : EvDs K tr δ fun ds δ1 => ds.length = n ∧ ∀ x, ∃ i, adr i = x ∧ (∀ B H dx, H x = some (.ins C dx []) → (R i).P (.ref x) B H (fun c => c = x)) ∧ pre i ds ∧ ∀ i' s, adr i' = adr i → T i ds i' s → s = .pu .none ∧ Φ (.ow (R i')) δ1) : EvS K (tMake C (spM K adr R n pre T) [] E tr) δ Φ := fun B H σ F Q S k =>
  h B H σ F _ S fun vs ds B2 H2 δ1 e f S2 ha ⟨hn, p⟩ => by
    intro x dx hx hdx hne
    obtain ⟨i, rfl, hi, hp, q⟩ := p x
    rw [List.append_nil]
    have ndx : ∀ a o, H2 a = some o → a ≠ dx := fun a o ho e => by rw [e, hdx] at ho; cases ho
    have nx : ∀ a o, H2 a = some o → a ≠ adr i := fun a o ho e => by rw [e, hx] at ho; cases ho
    have ex : Ex H2 (upd (upd H2 dx (.own (adr i))) (adr i) (.ins C dx [])) := fun a o ho => by
      rw [upd_ne (nx a o ho), upd_ne (ndx a o ho)]
      exact ho
    refine ⟨B2, i, fun c => c = adr i, vs, ds, rfl, S2.bh.trans ex, hi _ _ dx upd_same, fun a z => by rw [z]; exact exnone S2.bh hx, ha, hn, hp, fun w B3 H3 i' M2 s Ms e1 e2 k1 k2 ea hP2 hM2 hw hMs hT => ?_⟩
    obtain ⟨es, hq⟩ := q i' s ea hT
    subst es
    refine ⟨dp_non_inv hw.1, ?_⟩
    have keep : ∀ a o, H2 a = some o → H3 a = some o := fun a o ho => k1 a o (ex a o ho) (nx a o ho)
    have gr : Gr B2 H2 B3 H3 := by
      refine ⟨e1, keep, e2, fun a o ho => ?_⟩
      rcases k2 a o ho with z | z | z
      · exact .inl z
      · cases q2 : H2 a with
        | none => exact .inr rfl
        | some u => rw [ex a u q2] at z; cases z
      · rw [show a = adr i from z]; exact .inr hx
    have S3 := S2.grow gr
    have fr : ∀ a, M2 a → H2 a = none := fun a ha => by
      rcases (hM2 a ha).1 with z | z
      · rw [show a = adr i from z]; exact hx
      · cases q2 : H2 a with
        | none => rfl
        | some u => rw [ex a u q2] at z; cases z
    have S4 : Sd K B3 H3 σ δ1 (fun a => F a ∨ M2 a) := by
      obtain ⟨ms, h1, h2, h3, h4⟩ := S2.sl
      refine ⟨S3.bh, S3.len, fun a z => z.elim (S3.fb a) fun z => (hM2 a z).2, fun a z => z.elim (S3.fl a) fun z => (R i').live hP2 a z, ms, fun j s hs => (h1 j s hs).grow gr, h2, fun j a q z => ?_, h4⟩
      rcases z with z | z
      · exact h3 j a q z
      · have hl := h4 j a q
        have q2 := h1 j δ1[j] (List.getElem?_eq_getElem hl)
        have hn2 := fr a z
        cases e5 : δ1[j] with
        | non => rw [e5] at q2; exact q2 a q
        | pu d => rw [e5] at q2; obtain ⟨_, _, _, z⟩ := q2; exact z a q
        | ow R => rw [e5] at q2; obtain ⟨_, _, hP, _⟩ := q2; exact R.live hP a q hn2
        | al j => rw [e5] at q2; exact q2
    exact k _ M2 (.ow (R i')) B3 H3 δ1 (e.trans e1) (fun a z => by rw [ex_eq gr.h (S2.fl a z), f a z]) S4 hP2 (fun a z z2 => S2.fl a z2 (fr a z)) hq
/-! ### bodies -/
def RtG (T : Slot → Prop) (s : Slot) (δ : List Slot) : Prop := (∃ z, s = .pu z ∧ T s) ∨ (∃ R, s = .ow R ∧ T s) ∨ ∃ k R, s = .al k ∧ k ≠ 0 ∧ δ[k]? = some (.ow R) ∧ T (.ow R)
/-- what the body's first slot holds at the end -/
def EndR (adr : I → Addr) (R : I → Res) (i i' : I) (R2 : Res) : Prop := adr i' = adr i ∧ ∀ v B H M, R2.P v B H M → v = .ref (adr i) ∧ (R i').P v B H M
abbrev DnM (adr : I → Addr) (R : I → Res) (T : I → List PyData → I → Slot → Prop) (i : I) (ds : List PyData) : Dn := { nx := fun δ2 => ∃ i' R2, δ2[0]? = some (.ow R2) ∧ EndR adr R i i' R2 ∧ T i ds i' (.pu .none), rt := fun s δ2 => ∃ i' R2, δ2[0]? = some (.ow R2) ∧ EndR adr R i i' R2 ∧ RtG (T i ds i') s δ2 }
theorem body_M {N : List Str} {vs : List V} {Q : VK} (h : spM K adr R n pre T vs H Q E)
    (hx : ∀ i ds, ds.length = n → pre i ds → ExS K t (DnM adr R T i ds) (.ow (R i) :: (ds.map Slot.pu ++ List.replicate (N.length - (ds.length + 1)) Slot.non))) : t { nx := fun _ H' => Q .non H', rt := Q } (L2.start N vs) H := by
  obtain ⟨B, i, M, rest, ds, rfl, eB, hP, hMb, ha, hn, hp, q⟩ := h
  have hl := dpa_len ha
  let F : Addr → Prop := fun a => H a ≠ none ∧ B a = none ∧ ¬ M a
  have est : L2.start N (.ref (adr i) :: rest) = some (.ref (adr i)) :: (rest.map some ++ List.replicate (N.length - (rest.length + 1)) none) := by
    unfold L2.start
    rw [List.map_cons, List.length_cons, List.cons_append]
  have S0 : Sd K B H (L2.start N (.ref (adr i) :: rest)) (.ow (R i) :: (ds.map Slot.pu ++ List.replicate (N.length - (ds.length + 1)) Slot.non)) F := by
    rw [est]
    refine ⟨eB, by simp [hl], fun a z => z.2.1, fun a z => z.1, fun k a => k = 0 ∧ M a, fun k s hs => ?_, fun k j a z1 z2 => by rw [z1.1, z2.1], fun k a z f => f.2.2 z.2, fun k a z => by rw [z.1]; exact Nat.zero_lt_succ _⟩
    cases k with
    | zero =>
      rw [List.getElem?_cons_zero] at hs
      cases hs
      have eM : (fun a => 0 = 0 ∧ M a) = M := funext fun a => propext ⟨fun z => z.2, fun z => ⟨rfl, z⟩⟩
      exact ⟨.ref (adr i), rfl, by show (R i).P _ B H (fun a => 0 = 0 ∧ M a); rw [eM]; exact hP, fun a z => hMb a z.2⟩
    | succ k =>
      rw [List.getElem?_cons_succ] at hs
      by_cases hlt : k < ds.length
      · rw [List.getElem?_append_left (by rw [List.length_map]; exact hlt), List.getElem?_map] at hs
        cases hdi : ds[k]? with
        | none => rw [hdi] at hs; cases hs
        | some x =>
          rw [hdi] at hs
          cases hs
          obtain ⟨v, hv, hxx⟩ := dpa_get ha hdi
          rw [List.getElem?_cons_succ, List.getElem?_append_left (by rw [List.length_map, hl]; exact hlt), List.getElem?_map, hv]
          exact ⟨v, rfl, hxx, fun _ z => nomatch z.1⟩
      · rw [List.getElem?_append_right (by rw [List.length_map]; omega)] at hs
        rw [List.eq_of_mem_replicate (List.mem_of_getElem? hs)]
        exact fun _ z => nomatch z.1
  -- what holds at every end
  have old : ∀ (B2 : Hp) (a : Addr), Ex B B2 → B2 a = none → ¬ F a → M a ∨ H a = none := fun B2 a e hb nf => by
    cases hh : H a with
    | none => exact .inr rfl
    | some u => exact .inl (Classical.byContradiction fun hm => nf ⟨nn_of hh, exnone e hb, hm⟩)
  have fin : ∀ (B2 H2 : Hp) (σ2 : L2.St) (δ2 : List Slot) (F' : Addr → Prop) (R2 : Res) (i' : I) (w : V) (s : Slot) (Ms : Addr → Prop) (ms : Nat → Addr → Prop), Ex B B2 → (∀ a, F a → H2 a = H a) → Sd K B2 H2 σ2 δ2 F' → (∀ a, F a → F' a) → (∀ i s, δ2[i]? = some s → SlotIn K B2 H2 σ2[i]? (ms i) s) → (∀ i a, ms i a → ¬ F' a) → δ2[0]? = some (.ow R2) → EndR adr R i i' R2 → VOk K [] [] B2 H2 w Ms s → (∀ a, Ms a → (M a ∨ H a = none) ∧ B2 a = none ∧ ¬ ms 0 a) → T i ds i' s → Q w H2 := fun B2 H2 σ2 δ2 F' R2 i' w s Ms ms e f S hF' h1 h3 h0 ⟨ea, hR⟩ hw hMs hT => by
    obtain ⟨v, ev, hP2, hb2⟩ := h1 0 _ h0
    obtain ⟨rfl, hPi⟩ := hR _ _ _ _ hP2
    refine q w B2 H2 i' (ms 0) s Ms e S.bh (fun a o ho hm => ?_) (fun a o ho => ?_) ea hPi (fun a z => ⟨old B2 a e (hb2 a z) (fun fz => h3 0 a z (hF' a fz)), hb2 a z⟩) hw hMs hT
    · cases hba : B a with
      | none => rw [f a ⟨nn_of ho, hba, hm⟩]; exact ho
      | some o' =>
        have e1 := eB a o' hba
        rw [ho] at e1
        cases e1
        exact S.bh a o (e a o hba)
    · cases hba : B a with
      | some o' => exact .inl (by rw [e a o' hba] at ho; exact ho)
      | none =>
        cases hh : H a with
        | none => exact .inr (.inl rfl)
        | some u =>
          refine .inr (.inr (Classical.byContradiction fun hm => ?_))
          rw [S.fb a (hF' a ⟨nn_of hh, hba, hm⟩)] at ho
          cases ho
  refine hx i ds hn hp B H _ F _ S0 ⟨fun B2 H2 σ2 δ2 e f S ⟨i', R2, p0, p1, p⟩ => ?_, fun _ _ _ _ _ _ _ z => z.elim, fun _ _ _ _ _ _ _ z => z.elim, fun v Mv s B2 H2 σ2 δ2 e f S w nF ⟨i', R2, p0, p1, p⟩ => ?_, fun _ _ _ _ _ _ _ _ _ _ _ z => False.elim z⟩
  · obtain ⟨ms, h1, h2, h3, h4⟩ := S.sl
    exact fin B2 H2 σ2 δ2 F R2 i' .non (.pu .none) (fun _ => False) ms e f S (fun _ z => z) h1 h3 p0 p1 ⟨.non, fun _ z => z⟩ (fun _ z => z.elim) p
  · obtain ⟨ms, h1, h2, h3, h4⟩ := S.sl
    rcases p with ⟨z, rfl, hT⟩ | ⟨R', rfl, hT⟩ | ⟨k, R', rfl, hk, hkk, hT⟩
    · exact fin B2 H2 σ2 δ2 _ R2 i' v (.pu z) (fun _ => False) ms e f S (fun _ z => .inl z) h1 h3 p0 p1 ⟨w.1, fun _ z => z⟩ (fun _ z => z.elim) hT
    · exact fin B2 H2 σ2 δ2 _ R2 i' v (.ow R') Mv ms e f S (fun _ z => .inl z) h1 h3 p0 p1 w (fun a ha => ⟨old B2 a e (S.fb a (.inr ha)) (fun fz => nF a ha fz), S.fb a (.inr ha), fun z => h3 0 a z (.inr ha)⟩) hT
    · obtain ⟨v', ev', hP', hb'⟩ := h1 k _ hkk
      rw [w.1] at ev'
      cases ev'
      exact fin B2 H2 σ2 δ2 _ R2 i' v (.ow R') (ms k) ms e f S (fun _ z => .inl z) h1 h3 p0 p1 hP' (fun a ha => ⟨old B2 a e (hb' a ha) (fun fz => h3 k a ha (.inl fz)), hb' a ha, fun z => hk (h2 k 0 a ha z)⟩) hT
end
/-! ### methods, classes -/
structure Met (P : Program) (w : World) (K : PySem.W.Frag) (mg : Str → Option Value) (base : Heap) (k : Nat) (C : Addr) (m : Str) (sp : Sp) : Prop where
  ex : ∃ (f : Addr) (fd : FuncData) (ps : List Str), Cls K C ∧ Meth K C m f ∧ FnOk P w K mg base CX0 k f fd ps sp ∧ Binds K fd ps []
structure Mak (P : Program) (w : World) (K : PySem.W.Frag) (mg : Str → Option Value) (base : Heap) (k : Nat) (x : Str) (C : Addr) (sp : Sp) : Prop where
  ex : ∃ (f : Addr) (fd : FuncData) (ps : List Str), Mk K C f ∧ FnOk P w K mg base CX0 k f fd ps sp ∧ mg x = some (.ref C) ∧ Binds K fd ps []
structure DfM (K : PySem.W.Frag) (C : Addr) (m qual : Str) (st : Stmt) (ps : List Str) : Prop where
  ex : ∃ f fd, Fun K m qual st f fd ∧ Cls K C ∧ Meth K C m f ∧ Binds K fd ps []
structure DfI (K : PySem.W.Frag) (mg : Str → Option Value) (C : Addr) (x qual : Str) (st : Stmt) (ps : List Str) : Prop where
  ex : ∃ f fd, Fun K "__init__" qual st f fd ∧ Mk K C f ∧ mg x = some (.ref C) ∧ Binds K fd ps []
section
variable {P : Program} {w : World} {K : PySem.W.Frag} {mg : Str → Option Value} {base : Heap} {C : Addr} {x m qual : Str} {st : Stmt} {N ps : List Str} {k j n : Nat} {I : Type} {adr : I → Addr} {R : I → Res} {pre : I → List PyData → Prop} {T : I → List PyData → I → Slot → Prop} {sp : Sp}
/-- what a body must show -/
def BodyM (P : Program) (w : World) (K : PySem.W.Frag) (mg : Str → Option Value) (base : Heap) (k : Nat) (qual : Str) (st : Stmt) (N : List Str) (f : Addr) {I : Type} (adr : I → Addr) (R : I → Res) (n : Nat) (pre : I → List PyData → Prop) (T : I → List PyData → I → Slot → Prop) : Prop :=
  ∀ (cdv : Value) (A : Around) (outer : List Env) (s : Shared) (H : Hp) (E : XK), Room k (A.deeper (envOfC qual (defScope st) s.heap.objs.size f cdv)) →
    ∃ t, PSs (cxOf CX0 P w K mg base N qual (defScope st) f cdv A outer s H E).nox (defBody st) t ∧ ∀ i ds, ds.length = n → pre i ds → ExS K t (DnM adr R T i ds) (.ow (R i) :: (ds.map Slot.pu ++ List.replicate (N.length - (ds.length + 1)) Slot.non))
theorem fn_M {f : Addr} {fd : FuncData} (F : Fun K m qual st f fd) (S : FnScope N ps (defScope st)) (hn : ps.length = n + 1) (hbody : BodyM P w K mg base k qual st N f adr R n pre T) : FnOk P w K mg base CX0 (k + 1) f fd ps (spM K adr R n pre T) :=
  F.ok S (fun vs H Q E h => by rw [spM_len h, hn]) fun cdv A outer s H vs Q E hr h => by
    obtain ⟨t, ht, hx⟩ := hbody cdv A outer s H E hr
    exact ⟨t, ht, body_M h hx⟩
theorem metM (D : DfM K C m qual st ps) (S : FnScope N ps (defScope st)) (hn : ps.length = n + 1) (hbody : ∀ f, BodyM P w K mg base k qual st N f adr R n pre T) : Met P w K mg base (k + 1) C m (spM K adr R n pre T) := by
  obtain ⟨f, fd, F, c, hm, b⟩ := D.ex
  exact ⟨f, fd, ps, c, hm, fn_M F S hn (hbody f), b⟩
theorem makM (D : DfI K mg C x qual st ps) (S : FnScope N ps (defScope st)) (hn : ps.length = n + 1) (hbody : ∀ f, BodyM P w K mg base k qual st N f adr R n pre T) : Mak P w K mg base (k + 1) x C (spM K adr R n pre T) := by
  obtain ⟨f, fd, F, M, hm, b⟩ := D.ex
  exact ⟨f, fd, ps, M, fn_M F S hn (hbody f), hm, b⟩
theorem calM (D : Df K mg x st ps) (S : FnScope N ps (defScope st)) (hn : ps.length = n + 1) (hbody : ∀ f, BodyM P w K mg base k x st N f adr R n pre T) : Cal P w K mg base (k + 1) x (spM K adr R n pre T) := by
  obtain ⟨f, fd, F, hm, b⟩ := D.ex
  exact ⟨f, fd, ps, fn_M F S hn (hbody f), hm, F.kp, b⟩
end
section
variable {X : Cx} {k j : Nat} {C : Addr} {x m : Str} {sp : Sp} {p pos apos : Pos} {e o : Expr} {es : List Expr} {ta : TE} {t : TA}
theorem pe_mk (c : Mak X.prog X.w X.K X.mg X.base k x C sp) (hr : Room j X.A) (ha : PA X (e :: es) t) (hk : k + 1 ≤ j := by decide) (hg : Gl X x := by rfl)
    (hdb : (x == ("__debug__" : Str)) = false := by decide) (he : starEach (e :: es) X.env = (false, eval e X.env) :: starEach es X.env := by rfl) (hpl : (backTo pos (starEach es X.env)).any (·.1) = false := by rfl) :
    PE X (.Call (.Name x p) (e :: es) [] pos) (tMake C sp [] E0 t) := by
  obtain ⟨f, fd, ps, M, F, hm, b⟩ := c.ex
  exact pe_make M F (hr.mono hk) hg hm b .nil pass0 ha hdb he hpl
theorem pe_m {pl : Sem Bool} (c : Met X.prog X.w X.K X.mg X.base k C m sp) (hr : Room j X.A) (he : PE X o ta) (ha : PA X (e :: es) t) (hk : k ≤ j := by decide)
    (hst : starEach (e :: es) X.env = (false, eval e X.env) :: starEach es X.env := by rfl) (hpl : (backTo pos (starEach es X.env)).any (·.1) = false := by rfl)
    (ht : eval (.Call (.Attribute o m apos) (e :: es) [] pos) X.env = (do
      let ov ← eval o X.env
      standAt apos.atName
      let (f, first) ← holding [ov] (getMethod ov m pl)
      callWith pos f first (backTo pos (starEach (e :: es) X.env)) (backToKw pos (keywordEach [] X.env))) := by rfl) :
    PE X (.Call (.Attribute o m apos) (e :: es) [] pos) (tMeth C m sp [] E0 ta t) := by
  obtain ⟨f, fd, ps, hc, hm, F, b⟩ := c.ex
  exact pe_meth (pl := pl) he hc hm F (hr.mono hk) b .nil pass0 ha hst hpl ht
theorem pe_m0 {pl : Sem Bool} (c : Met X.prog X.w X.K X.mg X.base k C m sp) (hr : Room j X.A) (he : PE X o ta) (hk : k ≤ j := by decide)
    (ht : eval (.Call (.Attribute o m apos) [] [] pos) X.env = (do
      let ov ← eval o X.env
      standAt apos.atName
      let (f, first) ← holding [ov] (getMethod ov m pl)
      callWith pos f first (backTo pos (starEach [] X.env)) (backToKw pos (keywordEach [] X.env))) := by rfl) :
    PE X (.Call (.Attribute o m apos) [] [] pos) (tMeth C m sp [] E0 ta tNil) := by
  obtain ⟨f, fd, ps, hc, hm, F, b⟩ := c.ex
  exact pe_meth0 (pl := pl) he hc hm F (hr.mono hk) b .nil pass0 ht
end
end Dl
namespace Kk
open PySem PySem.Spec PyProof.Rows L2
theorem pe_fld {X : Cx} {K : PySem.W.Frag} {e : Expr} {f : Str} {pos : Pos} {ta : TE} (he : PE X e ta) (hb : attributeBase e f X.env (eval e X.env) = eval e X.env) (h : X.K = K := by rfl) : PE X (.Attribute e f pos) (tFld K ta f) := h ▸ L2.pe_fld he hb
theorem ps_fld {X : Cx} {K : PySem.W.Frag} {o value : Expr} {f : Str} {pos pos' : Pos} {ta tv : TE} (ha : PE X o ta) (hv : PE X value tv) (hs : swapsWith value (some (.Attribute o f pos')) pos.line X.env = pure false) (h : X.K = K := by rfl) : PS X (.Assign [.Attribute o f pos'] value pos) (sFld K ta tv f) := h ▸ L2.ps_fld ha hv hs
end Kk

/-! Dl16: dicts with int and text keys, data as values; displays; comprehensions that make what is owned. -/
namespace Dl
open PySem PySem.Spec PyProof.Rows L2
open Evl (Ex)
inductive KxAll (K : PySem.W.Frag) (B : Hp) : List (Key × V) → List (Key × PyData) → Prop
  | nil : KxAll K B [] []
  | cons {k : Key} {v : V} {d : PyData} {xs : List (Key × V)} {kvs : List (Key × PyData)} : Dp K B v d → KxAll K B xs kvs → KxAll K B ((k, v) :: xs) ((k, d) :: kvs)
def lookX {β : Type} (kvs : List (Key × β)) (k : Key) : Option β := (kvs.find? fun kv => decide (kv.1 = k)).map (·.2)
def putX {β : Type} (kvs : List (Key × β)) (k : Key) (d : β) : List (Key × β) :=
  if (kvs.any fun kv => decide (kv.1 = k)) = true then kvs.map (fun kv => if kv.1 = k then (kv.1, d) else kv) else kvs ++ [(k, d)]
def mergeX {β : Type} (kvs more : List (Key × β)) : List (Key × β) := more.foldl (fun acc kv => putX acc kv.1 kv.2) kvs
def keyD : Key → PyData
  | .inl i => .int i
  | .inr x => .str x
theorem keyD_val {K : PySem.W.Frag} {B : Hp} {v : V} {k : Key} (h : Dp K B v (keyD k)) : v = kV k := by
  cases k with
  | inl i => exact dp_int_inv h
  | inr x => exact dp_str_inv h
section
variable {K : PySem.W.Frag} {B B' : Hp}
theorem kxa_mono (e : Ex B B') : ∀ {xs : List (Key × V)} {kvs : List (Key × PyData)}, KxAll K B xs kvs → KxAll K B' xs kvs
  | _, _, .nil => .nil
  | _, _, .cons h t => .cons (dp_mono e _ _ h) (kxa_mono e t)
theorem kxa_len : ∀ {xs : List (Key × V)} {kvs : List (Key × PyData)}, KxAll K B xs kvs → xs.length = kvs.length
  | _, _, .nil => rfl
  | _, _, .cons _ t => by simp [kxa_len t]
theorem kxa_look {k : Key} : ∀ {xs : List (Key × V)} {kvs : List (Key × PyData)}, KxAll K B xs kvs → (lookX kvs k = none ∧ valV xs k = none) ∨ ∃ d v, lookX kvs k = some d ∧ valV xs k = some v ∧ Dp K B v d
  | _, _, .nil => .inl ⟨rfl, rfl⟩
  | _, _, @KxAll.cons _ _ i v d xs kvs h t => by
    by_cases e : i = k
    · subst e
      refine .inr ⟨d, v, ?_, valV_pos rfl, h⟩
      simp [lookX, List.find?_cons]
    · have e1 : lookX ((i, d) :: kvs) k = lookX kvs k := by simp [lookX, List.find?_cons, e]
      have e2 : valV ((i, v) :: xs) k = valV xs k := valV_neg e
      rw [e1, e2]
      exact kxa_look t
theorem kxa_any {k : Key} : ∀ {xs : List (Key × V)} {kvs : List (Key × PyData)}, KxAll K B xs kvs → (xs.any fun kv => decide (kv.1 = k)) = (kvs.any fun kv => decide (kv.1 = k))
  | _, _, .nil => rfl
  | _, _, @KxAll.cons _ _ i v d xs kvs h t => by
    rw [List.any_cons, List.any_cons, kxa_any t]
theorem kxa_app : ∀ {xs ys : List (Key × V)} {kvs lvs : List (Key × PyData)}, KxAll K B xs kvs → KxAll K B ys lvs → KxAll K B (xs ++ ys) (kvs ++ lvs)
  | _, _, _, _, .nil, s => s
  | _, _, _, _, .cons r t, s => .cons r (kxa_app t s)
theorem kxa_map {k : Key} {v : V} {d : PyData} (hd : Dp K B v d) : ∀ {xs : List (Key × V)} {kvs : List (Key × PyData)}, KxAll K B xs kvs → KxAll K B (xs.map fun kv => if kv.1 = k then (kv.1, v) else kv) (kvs.map fun kv => if kv.1 = k then (kv.1, d) else kv)
  | _, _, .nil => .nil
  | _, _, @KxAll.cons _ _ i v' d' xs kvs h t => by
    rw [List.map_cons, List.map_cons]
    by_cases e : i = k
    · subst e
      rw [if_pos rfl, if_pos rfl]
      exact .cons hd (kxa_map hd t)
    · rw [if_neg e, if_neg e]
      exact .cons h (kxa_map hd t)
theorem kxa_put {k : Key} {v : V} {d : PyData} (hd : Dp K B v d) {xs : List (Key × V)} {kvs : List (Key × PyData)} (h : KxAll K B xs kvs) : KxAll K B (putK xs k v) (putX kvs k d) := by
  unfold putK putX
  rw [kxa_any h]
  split
  · exact kxa_map hd h
  · exact kxa_app h (.cons hd .nil)
theorem kxa_merge {ys : List (Key × V)} {lvs : List (Key × PyData)} (h : KxAll K B ys lvs) : ∀ {xs : List (Key × V)} {kvs : List (Key × PyData)}, KxAll K B xs kvs → KxAll K B (mergeK xs ys) (mergeX kvs lvs) := by
  induction h with
  | nil => exact fun h => h
  | cons hd t ih => exact fun h => ih (kxa_put hd h)
end
/-- a dict with int and text keys, owned -/
def RDx (K : PySem.W.Frag) (kvs : List (Key × PyData)) : Res where
  P v B H M := ∃ p xs, v = .ref p ∧ H p = some (.dK xs) ∧ KxAll K B xs kvs ∧ ∀ a, M a ↔ a = p
  loc := by
    rintro v B H B' H' M ⟨p, xs, rfl, hp, hd, hM⟩ e k
    exact ⟨p, xs, rfl, by rw [k p ((hM p).mpr rfl)]; exact hp, kxa_mono e hd, hM⟩
  live := by
    rintro v B H M ⟨p, xs, rfl, hp, hd, hM⟩ a ha
    rw [(hM a).mp ha, hp]
    exact fun z => nomatch z
/-- pairs of a display, keys and data -/
def EvPs (K : PySem.W.Frag) (trs : List (TE × TE)) (δ : List Slot) (Φ : List (Key × PyData) → List Slot → Prop) : Prop :=
  ∀ (B H : Hp) (σ : L2.St) (F : Addr → Prop) (Q : List (V × V) → Hp → Prop), Sd K B H σ δ F →
    (∀ xs kvs B2 H2 δ2, Ex B B2 → (∀ a, F a → H2 a = H a) → Sd K B2 H2 σ δ2 F → KxAll K B2 xs kvs → Φ kvs δ2 → Q (xs.map fun kv => (kV kv.1, kv.2)) H2) → tPairs trs σ H Q
section
variable {K : PySem.W.Frag} {w : World} {δ : List Slot} {te ta tb tc : TE} {tr : TA} {tt : TT} {t u : TS} {d : Dn} {Φ : Slot → List Slot → Prop}
theorem ep_nil {Φ : List (Key × PyData) → List Slot → Prop} (h : Φ [] δ) : EvPs K [] δ Φ := fun B H σ F Q S k => k [] [] B H δ (Ex.refl _) (fun _ _ => rfl) S .nil h
theorem ep_cons {trs : List (TE × TE)} {Φ : List (Key × PyData) → List Slot → Prop} (h : EvS K ta δ fun s δ1 => ∃ k, s = .pu (keyD k) ∧ EvD K tb δ1 fun x δ2 => EvPs K trs δ2 fun kvs δ3 => Φ ((k, x) :: kvs) δ3) : EvPs K ((ta, tb) :: trs) δ Φ := fun B H σ F Q S kk =>
  h B H σ F _ S fun v M s B1 H1 δ1 e1 f1 S1 w1 n1 ⟨k, es, p⟩ => by
    subst es
    have ev := keyD_val w1.1
    subst ev
    refine p B1 H1 σ F _ (S1.less fun a z => .inl z) fun u x B2 H2 δ2 e2 f2 S2 hd q => q B2 H2 σ F _ S2 fun xs kvs B3 H3 δ3 e3 f3 S3 ha r => ?_
    exact kk ((k, u) :: xs) ((k, x) :: kvs) B3 H3 δ3 ((e1.trans e2).trans e3) (fun a z => (f3 a z).trans ((f2 a z).trans (f1 a z))) S3 (.cons (dp_mono e3 _ _ hd) ha) r
theorem ev_disp {trs : List (TE × TE)} (h : EvPs K trs δ fun kvs δ1 => kvs.length ≤ 15 ∧ Φ (.ow (RDx K (mergeX [] kvs))) δ1) : EvS K (tDisp trs) δ Φ := fun B H σ F Q S k p hp => by
  have S1 := sd_own (o := .dK []) S hp
  refine h B _ σ _ _ S1 fun xs kvs B2 H2 δ2 e f S2 ha ⟨hl, q⟩ => ⟨by rw [f p (.inr rfl), upd_same], xs, rfl, by rw [kxa_len ha]; exact hl, ?_⟩
  have hbp : B2 p = none := S2.fb p (.inr rfl)
  have nF : ∀ a, F a → a ≠ p := fun a z e => S.fl a z (by rw [e]; exact hp)
  refine k (.ref p) (fun a => a = p) (.ow (RDx K (mergeX [] kvs))) B2 _ δ2 e (fun a z => by rw [upd_ne (nF a z), f a (.inl z), upd_ne (nF a z)]) ?_ ⟨p, _, rfl, upd_same, kxa_merge ha .nil, fun _ => Iff.rfl⟩ (fun a z f => nF a f z) q
  obtain ⟨ms, h1, h2, h3, h4⟩ := S2.sl
  refine ⟨fun a u ha' => ?_, S2.len, S2.fb, fun a z => ?_, ms, fun i s hs => ?_, h2, h3, h4⟩
  · rw [upd_ne (fun e => by rw [e, hbp] at ha'; cases ha')]
    exact S2.bh a u ha'
  · by_cases e5 : a = p
    · rw [e5, upd_same]; exact fun z => nomatch z
    · rw [upd_ne e5]; exact S2.fl a z
  · have q := h1 i s hs
    cases s with
    | non => exact q
    | pu x => exact q
    | ow R =>
      obtain ⟨v, ev, hP, hb'⟩ := q
      exact ⟨v, ev, R.loc hP (Ex.refl _) fun a z => upd_ne fun e5 => h3 i a z (.inr e5), hb'⟩
    | al _ => exact q
/-- {..}[k], d[k] -/
def xden (K : PySem.W.Frag) (δ : List Slot) (s : Slot) (kvs : List (Key × PyData)) : Prop := s = .ow (RDx K kvs) ∨ ∃ i, s = .al i ∧ δ[i]? = some (.ow (RDx K kvs))
theorem xd_at {σ : L2.St} {B H : Hp} {F : Addr → Prop} {v : V} {M : Addr → Prop} {s : Slot} {kvs : List (Key × PyData)} (S : Sd K B H σ δ F) (h : VOk K σ δ B H v M s) (hd : xden K δ s kvs) : ∃ p xs, v = .ref p ∧ H p = some (.dK xs) ∧ KxAll K B xs kvs := by
  rcases hd with rfl | ⟨i, rfl, hi⟩
  · obtain ⟨p, xs, h1, h2, h3, _⟩ := h
    exact ⟨p, xs, h1, h2, h3⟩
  · obtain ⟨v', M', ev, ⟨p, xs, rfl, hp, ha, _⟩, _⟩ := S.opn hi
    rw [h.1] at ev
    cases ev
    exact ⟨p, xs, rfl, hp, ha⟩
theorem ev_xget (h : EvS K ta δ fun s δ1 => EvS K tb δ1 fun s2 δ2 => ∃ kvs k x, xden K δ2 s kvs ∧ s2 = .pu (keyD k) ∧ lookX kvs k = some x ∧ Φ (.pu x) δ2) : EvS K (tDGet ta tb) δ Φ := fun B H σ F Q S kk =>
  h B H σ F _ S fun v1 M1 s1 B1 H1 δ1 e1 f1 S1 w1 n1 p1 => p1 B1 H1 σ _ _ S1 fun v2 M2 s2 B2 H2 δ2 e2 f2 S2 w2 n2 ⟨kvs, k, x, hx, es, hl, q⟩ => by
    subst es
    obtain ⟨p, xs, rfl, hp, ha⟩ := xd_at S2 (w1.step (δ2 := δ2) e2 fun a ha => f2 a (.inr ha)) hx
    rcases kxa_look (k := k) ha with ⟨a, b⟩ | ⟨y, u, a, b, hd⟩
    · rw [hl] at a; cases a
    · rw [hl] at a
      cases a
      refine ⟨p, u, rfl, by rw [keyD_val w2.1, ← b]; exact DGet.k hp, ?_⟩
      exact kk u (fun _ => False) (.pu x) B2 H2 δ2 (e1.trans e2) (fun a z => (f2 a (.inl z)).trans (f1 a z)) (S2.less fun a z => .inl (.inl (z.elim id False.elim))) ⟨hd, fun _ z => z⟩ (fun _ z => z.elim) q
theorem xs_xput {j : Nat} (h : EvD K te δ fun x δ1 => ∃ kvs0, δ1[j]? = some (.ow (RDx K kvs0)) ∧ EvS K tb δ1 fun s δ2 => ∃ (k : Key) (kvs : List (Key × PyData)), s = .pu (keyD k) ∧ δ2[j]? = some (.ow (RDx K kvs)) ∧ kvs.length < 100000 ∧ d.nx (δ2.set j (.ow (RDx K (putX kvs k x))))) : ExS K (sDPut (tVar j) tb te) d δ := fun B H σ F D S L =>
  h B H σ F _ S fun v x B1 H1 δ1 e1 f1 S1 hd ⟨kvs0, h0, p⟩ => by
    obtain ⟨v0, M0, ev0, ⟨p0, xs0, rfl, _⟩, _⟩ := S1.opn h0
    refine ⟨_, ev0, p B1 H1 σ F _ S1 fun u M s B2 H2 δ2 e2 f2 S2 w2 n2 ⟨k, kvs, es, hj, hl, q⟩ => ?_⟩
    subst es
    have S2' : Sd K B2 H2 σ δ2 F := S2.less fun a z => .inl z
    obtain ⟨vv, MM, ev, ⟨pp, xs, rfl, hp, ha, hM⟩, hb, hF, op⟩ := S2'.opn hj
    rw [ev0] at ev
    cases ev
    have hbp : B2 p0 = none := hb p0 ((hM p0).mpr rfl)
    refine ⟨p0, _, rfl, by rw [keyD_val w2.1]; exact DPut.k hp (Evl.sz_lt (by rw [kxa_len ha]; exact hl)), ?_⟩
    have q2 := op B2 (upd H2 p0 (.dK (putK xs k v))) (some (.ref p0)) (.ow (RDx K (putX kvs k x))) (fun a => a = p0) (Ex.refl _) (fun a u ha' => by
      rw [upd_ne (fun e => by rw [e, hbp] at ha'; cases ha')]
      exact S2'.bh a u ha') (fun a o ha' nm => by rw [upd_ne (fun e => nm ((hM a).mpr e))]; exact ha') (fun _ _ z => .inl z)
      ⟨_, rfl, ⟨p0, _, rfl, upd_same, kxa_put (dp_mono e2 _ _ hd) ha, fun _ => Iff.rfl⟩, fun a z => by rw [z]; exact hbp⟩ (fun a z => .inl ((hM a).mpr z))
    rw [set_self ev0] at q2
    exact L.nx B2 _ σ _ (e1.trans e2) (fun a z => by rw [upd_ne (fun e => hF a ((hM a).mpr e) z), f2 a z, f1 a z]) q2 q
theorem ev_xin {neg : Bool} {td : TE} (r : TE) (hr : r = (if neg then tDNotIn ta td else tDIn ta td)) (h : EvS K ta δ fun s δ1 => EvS K td δ1 fun s2 δ2 => ∃ kvs k, s = .pu (keyD k) ∧ xden K δ2 s2 kvs ∧ Φ (.pu (.bool (if neg then !(lookX kvs k).isSome else (lookX kvs k).isSome))) δ2) : EvS K r δ Φ := fun B H σ F Q S kk => by
  have key : ta σ H fun y H1 => td σ H1 fun x H2 => ∃ a o, x = .ref a ∧ DGet H2 a y o ∧ Q (.bl (if neg then !o.isSome else o.isSome)) H2 :=
    h B H σ F _ S fun v1 M1 s1 B1 H1 δ1 e1 f1 S1 w1 n1 p1 => p1 B1 H1 σ _ _ S1 fun v2 M2 s2 B2 H2 δ2 e2 f2 S2 w2 n2 ⟨kvs, k, es, hx, q⟩ => by
      subst es
      obtain ⟨p, xs, rfl, hp, ha⟩ := xd_at S2 w2 hx
      refine ⟨p, valV xs k, rfl, by rw [keyD_val w1.1]; exact DGet.k hp, ?_⟩
      have e : (valV xs k).isSome = (lookX kvs k).isSome := by
        rcases kxa_look (k := k) ha with ⟨a, b⟩ | ⟨_, _, a, b, _⟩ <;> rw [a, b] <;> rfl
      rw [e]
      exact kk _ (fun _ => False) (.pu (.bool _)) B2 H2 δ2 (e1.trans e2) (fun a z => (f2 a (.inl z)).trans (f1 a z)) (S2.less fun a z => .inl (.inl (z.elim id False.elim))) ⟨.bl _, fun _ z => z⟩ (fun _ z => z.elim) q
  rw [hr]
  cases neg with
  | true => exact key
  | false => exact key
/-! ### [C(x) for x in t]: what is made is owned -/
/-- cells made one behind another, the list of their roots at D -/
def blocks (D : Addr) (bs : List (Addr × Cells)) : Cells := (D, .lst ((bs.map (·.1)).map .r)) :: (bs.map (·.2)).flatten
theorem ev_lcTo {j : Nat} (h : EvS K ta δ fun s δ1 => ∃ ds, s = .pu (.tuple ds) ∧ ds.length ≤ 100000 ∧ Junk (δ1.getD j .non) ∧ j < δ1.length ∧ ∃ Pv : Nat → List (Addr × Cells) → Prop, Pv 0 [] ∧
    (∀ (i : Nat) y bs, ds[i]? = some y → Pv i bs → EvS K te (δ1.set j (.pu y)) fun s2 δ2 => δ2 = δ1.set j (.pu y) ∧ ∃ a cs, s2 = .ow (RH K a cs) ∧ Pv (i + 1) (bs ++ [(a, cs)])) ∧
    ∀ bs, bs.length = ds.length → Pv ds.length bs → ∀ D, Φ (.ow (RH K D (blocks D bs))) δ1) : EvS K (tLc (iTup K ta) (gName j) tYes te [j]) δ Φ := fun B H σ F Q S kk =>
  h B H σ F _ S fun v M s B2 H2 δ1 e f S2 w n ⟨ds, es, hdl, hjk, hj, Pv, h0, hs, hd⟩ => by
    subst es
    have S2' : Sd K B2 H2 σ δ1 F := S2.less fun a z => .inl z
    have hw : ∀ i ∈ [j], ∀ s, δ1[i]? = some s → s = .non ∨ ∃ d, s = .pu d := fun i hi s hs => by
      rw [List.mem_singleton.mp hi] at hs
      rw [List.getD_eq_getElem?_getD, hs] at hjk
      exact hjk
    have hd0 := w.1
    cases hd0 with
    | @tup p xs _ hq ha =>
      refine ⟨p, rfl, ⟨xs, Evl.ex_t S2.bh hq⟩, fun D hD => ?_⟩
      have nF : ¬ F D := fun z => S2'.fl D z hD
      -- what holds between two turns
      let Inv := fun (i : Nat) (H' : Hp) => ∃ B' bs Mb, Ex B2 B' ∧ (∀ a, F a → H' a = H2 a) ∧ Sd K B' H' σ δ1 (fun a => F a ∨ Mb a) ∧ (∀ a, Mb a → ¬ F a) ∧ (RH K D (blocks D bs)).P (.ref D) B' H' Mb ∧ Pv i bs ∧ bs.length = i
      refine ⟨fun i m H' => m = ds.length - i ∧ i ≤ ds.length ∧ Inv i H', ⟨ds.length, rfl, Nat.zero_le _, B2, [], (fun a => a = D), Ex.refl _, fun a z => upd_ne fun e => nF (by rw [← e]; exact z), sd_own S2' hD, (fun a e z => nF (e ▸ z)), ⟨rfl, fun y hy => ?_, by simp [blocks], fun a => by simp [blocks]⟩, h0, rfl⟩, ?_⟩
      · rcases List.mem_cons.mp hy with rfl | hy
        · exact ⟨[], upd_same, .nil⟩
        · cases hy
      rintro i m H' ⟨rfl, hi, B', bs, Mb, e', f', S', nMb, hP, pv, hbl⟩
      by_cases hlt : i < ds.length
      · have hq' : SqT K H' p xs := Evl.ex_t (e'.trans S'.bh) hq
        obtain ⟨w2, hw2, hdw⟩ := dpa_get ha (List.getElem?_eq_getElem hlt)
        refine .inr ⟨⟨xs, w2, hq', hw2⟩, Inv (i + 1), fun H2 q => ⟨ds.length - (i + 1), by omega, rfl, hlt, q⟩, fun x H3 hy => ?_⟩
        obtain ⟨e1, e2⟩ := hy
        subst e1
        have e3 := (e2 xs hq').symm.trans hw2
        cases e3
        have hdx : Dp K B' w2 ds[i] := dp_mono e' _ _ hdw
        refine ⟨?_, ?_⟩
        · exact wipe_ext (by rw [List.length_set, wipe_length]) fun k hk => by rw [List.getElem?_set_ne (fun z => hk (by rw [z]; exact List.mem_singleton.mpr rfl)), wipe_out hk]
        · show if true = true then te ((wipe σ [j]).set j (some w2)) H3 fun y H4 => ∃ acc, H4 D = some (HO.lst acc) ∧ acc.length < sizeLine ∧ Inv (i + 1) (upd H4 D (HO.lst (acc ++ [y]))) else Inv (i + 1) H3
          rw [if_pos rfl]
          have S3 : Sd K B' H3 ((wipe σ [j]).set j (some w2)) (δ1.set j (.pu ds[i])) (fun a => F a ∨ Mb a) := by
            have := (S'.wiped [j]).put_pu hdx (by rw [wipeD_len]; exact hj)
            have e4 : (wipeD δ1 [j]).set j (.pu ds[i]) = δ1.set j (.pu ds[i]) := by
              show (δ1.set j .non).set j (.pu ds[i]) = _
              rw [List.set_set]
            rw [e4] at this
            exact this
          refine hs i _ bs (List.getElem?_eq_getElem hlt) pv B' H3 _ _ _ S3 fun y My s2 B4 H4 δ4 e4 f4 S4 w4 n4 ⟨eδ, a, cs, es2, pv2⟩ => ?_
          subst es2 eδ
          obtain ⟨hy0, hy1, hy2, hy3⟩ := w4
          subst hy0
          obtain ⟨hb0, hb1, hb2, hb3⟩ := hP
          have hDm : Mb D := (hb3 D).mpr (by simp [blocks])
          have hD4 : H4 D = H3 D := f4 D (.inr hDm)
          obtain ⟨vs, hv1, hv2⟩ := hb1 (D, .lst ((bs.map (·.1)).map .r)) (List.mem_cons_self ..)
          have hv : H4 D = some (.lst vs) := by rw [hD4]; exact hv1
          have hvl : vs.length = i := by rw [cva_len hv2, List.length_map, List.length_map, hbl]
          have hBD : B4 D = none := S4.fb D (.inl (.inr hDm))
          refine ⟨vs, hv, Evl.sz_lt (by omega), B4, bs ++ [(a, cs)], (fun c => Mb c ∨ My c), e'.trans e4, fun c z => ?_, ?_, fun c z => ?_, ⟨rfl, fun y hy => ?_, ?_, fun c => ?_⟩, pv2, by rw [List.length_append, hbl]; rfl⟩
          · rw [upd_ne (fun e => nF (by rw [← e]; exact z)), f4 c (.inl z), f' c z]
          · -- the names are as before
            have S5 : Sd K B4 H4 σ δ1 (fun c => (F c ∨ Mb c) ∨ My c) := S'.unwipe (vs := [j]) S4 e4 (fun k hk => by
              have hne : j ≠ k := fun z => hk (by rw [z]; exact List.mem_singleton.mpr rfl)
              rw [List.getElem?_set_ne hne, wipe_out hk]) (fun k hk => by
              have hne : j ≠ k := fun z => hk (by rw [z]; exact List.mem_singleton.mpr rfl)
              rw [List.getElem?_set_ne hne]) hw
            obtain ⟨ms, h1, h2, h3, h4⟩ := S5.sl
            refine ⟨fun c u hc => ?_, S5.len, fun c z => S5.fb c (z.elim (fun z => .inl (.inl z)) fun z => z.elim (fun z => .inl (.inr z)) .inr), fun c z => ?_, ms, fun k s hs => ?_, h2, fun k c q z => h3 k c q (z.elim (fun z => .inl (.inl z)) fun z => z.elim (fun z => .inl (.inr z)) .inr), h4⟩
            · rw [upd_ne (fun e => by rw [e, hBD] at hc; cases hc)]
              exact S5.bh c u hc
            · by_cases e5 : c = D
              · rw [e5, upd_same]; exact fun z => nomatch z
              · rw [upd_ne e5]
                exact S5.fl c (z.elim (fun z => .inl (.inl z)) fun z => z.elim (fun z => .inl (.inr z)) .inr)
            · have q := h1 k s hs
              cases s with
              | non => exact q
              | pu x => exact q
              | ow R =>
                obtain ⟨v, ev, hP', hb'⟩ := q
                exact ⟨v, ev, R.loc hP' (Ex.refl _) fun c z => upd_ne fun e5 => h3 k c z (.inl (.inr (by rw [e5]; exact hDm))), hb'⟩
              | al _ => exact q
          · rcases z with z | z
            · exact nMb c z
            · exact fun hf => n4 c z (.inl hf)
          · have neD : ∀ c, My c → c ≠ D := fun c z e => n4 c z (.inr (by rw [e]; exact hDm))
            rcases List.mem_cons.mp hy with rfl | hy
            · show CellAt K B4 (upd H4 D _ D) _
              rw [upd_same]
              refine ⟨_, rfl, ?_⟩
              rw [List.map_append, List.map_append]
              exact cva_app (cva_mono e4 hv2) (.cons rfl .nil)
            · rw [List.map_append, List.flatten_append] at hy
              rcases List.mem_append.mp hy with hy | hy
              · have hyb : y ∈ blocks D bs := List.mem_cons_of_mem _ hy
                have hne : y.1 ≠ D := fun e => (List.nodup_cons.mp (by have := hb2; unfold blocks at this; rw [List.map_cons] at this; exact this)).1 (by rw [← e]; exact List.mem_map.mpr ⟨y, hy, rfl⟩)
                rw [upd_ne hne, f4 y.1 (.inr ((hb3 y.1).mpr (List.mem_map.mpr ⟨y, hyb, rfl⟩)))]
                exact cell_mono e4 (hb1 y hyb)
              · have hyc : y ∈ cs := by simpa using hy
                rw [upd_ne (neD y.1 ((hy3 y.1).mpr (List.mem_map.mpr ⟨y, hyc, rfl⟩)))]
                exact hy1 y hyc
          · have e6 : (blocks D (bs ++ [(a, cs)])).map (·.1) = (blocks D bs).map (·.1) ++ cs.map (·.1) := by simp [blocks]
            rw [e6, List.nodup_append]
            refine ⟨hb2, hy2, fun c hc d hd e => ?_⟩
            subst e
            exact n4 c ((hy3 c).mpr hd) (.inr ((hb3 c).mpr hc))
          · have e6 : (blocks D (bs ++ [(a, cs)])).map (·.1) = (blocks D bs).map (·.1) ++ cs.map (·.1) := by simp [blocks]
            rw [e6, List.mem_append, ← hb3, ← hy3]
      · have e1 : i = ds.length := by omega
        subst e1
        refine .inl ⟨⟨xs, Evl.ex_t (e'.trans S'.bh) hq, Nat.le_of_eq (dpa_len ha)⟩, ?_⟩
        exact kk (.ref D) Mb (.ow (RH K D (blocks D bs))) B' H' δ1 (e.trans e') (fun a z => (f' a z).trans (f a z)) S' hP nMb (hd bs hbl pv D)
end
end Dl

/-! Dl17: fields of a new instance. -/
namespace Dl
open PySem PySem.Spec PyProof.Rows L2
open Evl (Ex)
section
variable {K : PySem.W.Frag} {w : World} {δ : List Slot} {te ta tb tc : TE} {tr : TA} {tt : TT} {t u : TS} {d : Dn} {Φ : Slot → List Slot → Prop} {B H : Hp} {σ : L2.St} {F M1 : Addr → Prop} {C : Addr} {f : Str} {cs cs2 : Cells} {root : Addr} {v : V} {M : Addr → Prop}
theorem RH.perm (hp : cs.Perm cs2) (h : (RH K root cs).P v B H M) : (RH K root cs2).P v B H M := by
  obtain ⟨h0, h1, h2, h3⟩ := h
  have hm := hp.map (·.1)
  exact ⟨h0, fun x hx => h1 x (hp.mem_iff.mpr hx), hm.nodup_iff.mp h2, fun a => (h3 a).trans hm.mem_iff⟩
/-- self.f = data, self a new instance -/
theorem xs_insD (c : Cls K C) (n : NoAttr K C f) (h : EvD K te δ fun x δ1 => ∃ a fs cs, δ1[0]? = some (.ow (RH K a ((a, .ins C fs) :: cs))) ∧ fs.length < 1000 ∧ d.nx (δ1.set 0 (.ow (RH K a ((a, .ins C (putC f (.d x) fs)) :: cs))))) : ExS K (sFld K (tVar 0) te f) d δ :=
  xs_fldD fun B H σ F Q S k => h B H σ F Q S fun v x B2 H2 δ2 e f' S2 hd ⟨a, fs, cs, h0, hl, q⟩ => k v x B2 H2 δ2 e f' S2 hd (ev_al h0 ⟨0, _, _, a, ⟨h0, .inr ⟨rfl, rh_at⟩⟩, put_d (cs' := fun c => (a, c) :: cs) ⟨[], cs, rfl, fun _ => rfl⟩ c n hl, q⟩)
/-- self.f = what is owned -/
theorem xs_insO (c : Cls K C) (n : NoAttr K C f) (h : EvS K te δ fun s1 δ1 => (∃ D cs1, s1 = .ow (RH K D cs1) ∧ ∃ a fs cs, δ1[0]? = some (.ow (RH K a ((a, .ins C fs) :: cs))) ∧ fs.length < 1000 ∧ d.nx (δ1.set 0 (.ow (RH K a ((a, .ins C (putC f (.r D) fs)) :: (cs ++ cs1)))))) ∨ ∃ ds, s1 = .ow (RL K ds) ∧ ∃ a fs cs, δ1[0]? = some (.ow (RH K a ((a, .ins C fs) :: cs))) ∧ fs.length < 1000 ∧ ∀ D, d.nx (δ1.set 0 (.ow (RH K a ((a, .ins C (putC f (.r D) fs)) :: (cs ++ [(D, .lst (ds.map .d))])))))) : ExS K (sFld K (tVar 0) te f) d δ := fun B H σ F DD S L =>
  h B H σ F _ S fun v M1 s1 B1 H1 δ1 e1 f1 S1 w1 n1 p => by
    have key : ∃ D cs1, (RH K D cs1).P v B1 H1 M1 ∧ ∃ a fs cs, δ1[0]? = some (.ow (RH K a ((a, .ins C fs) :: cs))) ∧ fs.length < 1000 ∧ d.nx (δ1.set 0 (.ow (RH K a ((a, .ins C (putC f (.r D) fs)) :: (cs ++ cs1))))) := by
      rcases p with ⟨D, cs1, es, q⟩ | ⟨ds, es, a, fs, cs, h0, hl, q⟩
      · subst es
        exact ⟨D, cs1, w1, q⟩
      · subst es
        obtain ⟨r, xs, rfl, hr, hx, hM1⟩ := w1
        exact ⟨r, _, ⟨rfl, fun y hy => by rw [List.mem_singleton.mp hy]; exact ⟨xs, hr, cva_data hx⟩, by simp, fun c => by simp [hM1 c]⟩, a, fs, cs, h0, hl, q r⟩
    obtain ⟨D, cs1, hD, a, fs, cs, h0, hl, q⟩ := key
    obtain ⟨v0, M, ev, hP, hb, hdis, op⟩ := S1.chg (fun c hc hf => n1 c hc hf) h0
    obtain ⟨g0, g1, g2, g3⟩ := hP
    obtain ⟨d0, d1, d2, d3⟩ := hD
    subst g0 d0
    have hMa : M a := (g3 a).mpr (by simp)
    obtain ⟨dx, ys, e2, e3⟩ := g1 (a, .ins C fs) (List.mem_cons_self ..)
    rw [List.map_cons] at g2
    obtain ⟨nd1, nd2⟩ := List.nodup_cons.mp g2
    refine ⟨_, ev, a, C, dx, ys, rfl, e2, c, n, by rw [fsa_len e3]; exact hl, ?_⟩
    have old : ∀ y, (y ∈ cs ∨ y ∈ cs1) → y.1 ≠ a := fun y hy e => by
      rcases hy with hy | hy
      · exact nd1 (e ▸ List.mem_map.mpr ⟨y, hy, rfl⟩)
      · exact (hdis a hMa).2 ((d3 a).mpr (e ▸ List.mem_map.mpr ⟨y, hy, rfl⟩))
    have S3 := op B1 (upd H1 a (.ins C dx (putF f (.ref D) ys))) (some (.ref a)) (.ow (RH K a ((a, .ins C (putC f (.r D) fs)) :: (cs ++ cs1)))) (fun c => M c ∨ M1 c) (fun _ => False) (Ex.refl _) (fun x u hx => by
      rw [upd_ne (fun e => by rw [e, hb a hMa] at hx; cases hx)]
      exact S1.bh x u hx) (fun x o hx hn _ => by rw [upd_ne (fun e => hn (by rw [e]; exact hMa))]; exact hx) (fun _ _ z => .inl z) ⟨_, rfl, ⟨rfl, fun y hy => ?_, ?_, fun x => ?_⟩, fun x hx => hx.elim (hb x) fun z => S1.fb x (.inr z)⟩ (fun x hx => hx.imp id .inl) (fun x z => z.elim)
    · rw [set_self ev] at S3
      exact L.nx B1 _ σ _ e1 (fun x z => by rw [upd_ne (fun e => (hdis a hMa).1 (by rw [← e]; exact z)), f1 x z]) (S3.less fun x z => .inl z) q
    · rcases List.mem_cons.mp hy with rfl | hy
      · show CellAt K B1 (upd H1 a _ a) _
        rw [upd_same]
        exact ⟨dx, _, rfl, fsa_put (c := .r D) rfl e3⟩
      · have hy' := List.mem_append.mp hy
        rw [upd_ne (old y hy')]
        rcases hy' with hy | hy
        · exact g1 y (List.mem_cons_of_mem _ hy)
        · exact d1 y hy
    · rw [List.map_cons, List.map_append, List.nodup_cons, List.mem_append, List.nodup_append]
      refine ⟨fun z => ?_, nd2, d2, fun x hx y hy e => ?_⟩
      · rcases z with z | z
        · exact nd1 z
        · exact (hdis a hMa).2 ((d3 a).mpr z)
      · subst e
        exact (hdis x ((g3 x).mpr (List.mem_cons_of_mem _ hx))).2 ((d3 x).mpr hy)
    · show (M x ∨ M1 x) ↔ _
      rw [List.map_cons, List.map_append, List.mem_cons, List.mem_append, g3 x, d3 x, List.map_cons, List.mem_cons]
      exact or_assoc
end
end Dl

/-! Rk5: list.count of texts. -/
namespace Rk
open PySem PySem.Spec PyProof PyProof.Rows L2
theorem reads_strs {h : Heap} : ∀ {us : List Value} {xs : List Str}, StrsAre us xs → ReadsAll h us (xs.map PyData.str) []
  | _, _, .nil => .nil
  | _, _, .cons x k t => .cons (.str x k) (reads_strs t)
theorem plainAll_strs : ∀ (xs : List Str), PyData.plainAll (xs.map PyData.str) = true
  | [] => rfl
  | x :: r => by
    show (PyData.plain (.str x) && PyData.plainAll (r.map PyData.str)) = true
    rw [plainAll_strs r]
    rfl
theorem count_strs (k : Str) : ∀ (xs : List Str), (xs.map PyData.str).countP (fun y => PyData.eqv y (.str k)) = xs.count k
  | [] => rfl
  | x :: r => by
    rw [List.map_cons, List.countP_cons, count_strs k r, List.count_cons]
    congr 1
def rCntS (K : PySem.W.Frag) : V → List V → Hp → VK → Prop := fun x xs H Q => ∃ (p : Addr) (ns : List Str) (k : Str), x = .ref p ∧ xs = [.str k] ∧ SqL K H p (ns.map V.str) ∧ Q (.int (ns.count k : Nat)) H
theorem mt_lcountS {X : Cx} (hu : X.A.units + 1 < cLine) : MtR X "list.count" (rCntS X.K) := by
  intro pins s σ H x xs v us Q I rx rxs h
  obtain ⟨p, ns, k, rfl, rfl, hs, q⟩ := h
  cases rx
  obtain ⟨u, rfl, ru⟩ := rxs.one
  obtain ⟨t, rfl⟩ := ru
  obtain ⟨its, rv, pl, hlen⟩ := I.list hs
  refine PySem.SeqAt.count_list_data pl.isList (reads_strs (Vals.strs (by rw [List.toList_toArray]; exact rv))) (.str k t) (plainAll_strs ns) rfl ?_ ?_
  · have : PyData.depth (.str k) = 0 := rfl
    rw [this, Nat.min_zero]
    exact hu
  · rw [count_strs]
    exact ⟨.int (ns.count k : Nat), H, I.tok _, ⟨s.toks, rfl⟩, q⟩
end Rk
namespace Kk
open PySem PySem.Spec PyProof.Rows L2
theorem mt_lcountS {X : Cx} {K : PySem.W.Frag} (hu : X.A.units + 1 < cLine) (h : X.K = K := by rfl) : MtR X "list.count" (Rk.rCntS K) := h ▸ Rk.mt_lcountS hu
end Kk

/-! Dl18: count of texts, a, b = x, y. -/
namespace Dl
open PySem PySem.Spec PyProof.Rows L2
open Evl (Ex)
section
variable {K : PySem.W.Frag} {w : World} {δ : List Slot} {te ta tb tc : TE} {tr : TA} {tt : TT} {t u : TS} {d : Dn} {Φ : Slot → List Slot → Prop}
theorem ev_countS (h : EvS K ta δ fun s δ1 => ∃ ns : List Str, den K δ1 s (.list (ns.map PyData.str)) ∧ EvS K te δ1 fun s2 δ2 => ∃ k : Str, den K δ2 s (.list (ns.map PyData.str)) ∧ s2 = .pu (.str k) ∧ Φ (.pu (.int ((ns.count k : Nat) : Int))) δ2) : EvS K (tBM K "list" (Rk.rCntS K) ta (tCons te tNil)) δ Φ := fun B H σ F Q S kk =>
  h B H σ F _ S fun v M s B1 H1 δ1 e1 f1 S1 w1 n1 ⟨ns, hd, p⟩ => by
    obtain ⟨b, xs, rfl, hs, ha⟩ := (den_dr S1 w1 hd).lst S1.bh
    refine ⟨.inl ⟨rfl, xs, hs⟩, p B1 H1 σ _ _ S1 fun v2 M2 s2 B2 H2 δ2 e2 f2 S2 w2 n2 ⟨k, hd2, es, q⟩ => ?_⟩
    subst es
    obtain ⟨b', xs', e, hs', ha'⟩ := (den_dr S2 (w1.step (δ2 := δ2) e2 fun a ha => f2 a (.inr ha)) hd2).lst S2.bh
    cases e
    have ex := dpa_strs_inv ha'
    subst ex
    exact ⟨b, ns, k, rfl, by rw [dp_str_inv w2.1], hs', kk _ (fun _ => False) (.pu (.int _)) B2 H2 δ2 (e1.trans e2) (fun a z => (f2 a (.inl z)).trans (f1 a z)) (S2.less fun a z => .inl (.inl (z.elim id False.elim))) ⟨.int _, fun _ z => z⟩ (fun _ z => z.elim) q⟩
theorem xs_par {i j : Nat} (h : EvDs K tr δ fun ds δ1 => ∃ x y, ds = [x, y] ∧ i < δ1.length ∧ j < δ1.length ∧ d.nx ((δ1.set i (.pu x)).set j (.pu y))) : ExS K (tPar i j tr) d δ := fun B H σ F D S L =>
  h B H σ F _ S fun vs ds B2 H2 δ1 e f S2 ha ⟨x, y, ed, hi, hj, q⟩ => by
    subst ed
    cases ha with
    | cons h1 t =>
      cases t with
      | cons h2 t =>
        cases t
        exact ⟨_, _, rfl, L.nx B2 H2 _ _ e f ((S2.put_pu h1 hi).put_pu h2 (by rw [List.length_set]; exact hj)) q⟩
end
end Dl

namespace Dl
open PySem PySem.Spec PyProof.Rows L2
section
variable {K : PySem.W.Frag} {ta tb : TE} {tt tu : TT} {δ : List Slot}
/-- `a and b`, both told outright: no case split -/
theorem ev_andQ {Φ : Slot → List Slot → Prop} (h : EvS K ta δ fun s δ1 => ∃ b c, s = .pu (.bool b) ∧ EvS K tb δ1 (fun s2 δ2 => s2 = .pu (.bool c) ∧ δ2 = δ1) ∧ Φ (.pu (.bool (b && c))) δ1) : EvS K (tAndV ta tb) δ Φ :=
  ev_andV (h.imp fun s δ1 ⟨b, c, hs, hb, q⟩ => ⟨b, hs, by
    cases b with
    | true =>
      rw [if_pos rfl]
      exact hb.imp fun s2 δ2 ⟨e1, e2⟩ => by rw [e1, e2]; exact q
    | false =>
      rw [if_neg Bool.false_ne_true]
      exact q⟩)
theorem et_orQ {Φ : Bool → List Slot → Prop} (h : EvT K tt δ fun b δ1 => ∃ c, EvT K tu δ1 (fun b2 δ2 => b2 = c ∧ δ2 = δ1) ∧ Φ (b || c) δ1) : EvT K (tOr tt tu) δ Φ :=
  et_or (h.imp fun b δ1 ⟨c, hb, q⟩ => by
    cases b with
    | true => exact (if_pos rfl : (if true = true then _ else _) = _) ▸ q
    | false =>
      rw [if_neg Bool.false_ne_true]
      exact hb.imp fun b2 δ2 ⟨e1, e2⟩ => by rw [e1, e2]; exact q)
theorem out3 {δ : List Slot} {a b c : Nat} {x y z : Slot} (i : Nat) (h : i ∉ [a, b, c]) : (((δ.set a x).set b y).set c z)[i]? = δ[i]? := by
  rw [List.getElem?_set_ne (fun e => h (by rw [← e]; simp)), List.getElem?_set_ne (fun e => h (by rw [← e]; simp)), List.getElem?_set_ne (fun e => h (by rw [← e]; simp))]
theorem tgl3 {n a b c : Nat} {x y z : PyData} {vs : List Nat} (h : a < n) (h2 : b < n) (h3 : c < n) (k : a ∈ vs) (k2 : b ∈ vs) (k3 : c ∈ vs) : ∀ p ∈ [(a, x), (b, y), (c, z)], p.1 < n ∧ p.1 ∈ vs := fun p hp => by
  rcases List.mem_cons.mp hp with rfl | hp
  · exact ⟨h, k⟩
  · rcases List.mem_cons.mp hp with rfl | hp
    · exact ⟨h2, k2⟩
    · rw [List.mem_singleton.mp hp]
      exact ⟨h3, k3⟩
end
end Dl

/-! Dl20: defs one of whose arguments is an owned list that they may change and that is theirs. -/
namespace Dl
open PySem PySem.Spec PyProof.Rows L2
open Evl (Ex)
/-- data, an owned list, data: a flat answer, nothing else changes -/
def spO (K : PySem.W.Frag) (n1 n2 : Nat) (pre : List PyData → List PyData → List PyData → Prop) (T : List PyData → List PyData → List PyData → PyData → Prop) : Sp := fun vs H Q _ =>
  ∃ (B : Hp) (as bs : List V) (p : Addr) (xs : List V) (d1 zs d2 : List PyData), vs = as ++ .ref p :: bs ∧ Ex B H ∧ B p = none ∧ H p = some (.lst xs) ∧ DpAll K B xs zs ∧ DpAll K B as d1 ∧ DpAll K B bs d2 ∧ d1.length = n1 ∧ d2.length = n2 ∧ pre d1 zs d2 ∧
    ∀ z H2, (∀ a o, a ≠ p → H a = some o → H2 a = some o) → flatD z = true → T d1 zs d2 z → Q (valD z) H2
theorem spO_len {K : PySem.W.Frag} {n1 n2 : Nat} {pre : List PyData → List PyData → List PyData → Prop} {T : List PyData → List PyData → List PyData → PyData → Prop} {vs : List V} {H : Hp} {Q : VK} {E : XK} (h : spO K n1 n2 pre T vs H Q E) : vs.length = n1 + n2 + 1 := by
  obtain ⟨B, as, bs, p, xs, d1, zs, d2, rfl, _, _, _, _, h1, h2, e1, e2, _⟩ := h
  rw [List.length_append, List.length_cons, dpa_len h1, dpa_len h2, e1, e2]
  omega
theorem aok_pu {K : PySem.W.Frag} {σ : L2.St} {δ : List Slot} {B H : Hp} : ∀ {ds : List PyData} {vs : List V} {M : Addr → Prop}, AOk K σ δ B H vs (ds.map .pu) M → DpAll K B vs ds
  | [], _, _, h => by cases h; exact .nil
  | d :: ds, _, _, h => by
    cases h with
    | cons h1 h2 h3 => exact .cons h1.1 (aok_pu h3)
theorem aok_mid {K : PySem.W.Frag} {σ : L2.St} {δ : List Slot} {B H : Hp} {zs d2 : List PyData} : ∀ {d1 : List PyData} {vs : List V} {M : Addr → Prop}, AOk K σ δ B H vs (d1.map .pu ++ .ow (RL K zs) :: d2.map .pu) M → ∃ (as bs : List V) (p : Addr) (xs : List V), vs = as ++ .ref p :: bs ∧ DpAll K B as d1 ∧ DpAll K B bs d2 ∧ H p = some (.lst xs) ∧ DpAll K B xs zs ∧ M p
  | [], _, _, h => by
    cases h with
    | cons h1 h2 h3 =>
      obtain ⟨p, xs, rfl, hp, hx, hM⟩ := h1
      exact ⟨[], _, p, xs, rfl, .nil, aok_pu h3, hp, hx, .inl ((hM p).mpr rfl)⟩
  | d :: d1, _, _, h => by
    cases h with
    | cons h1 h2 h3 =>
      obtain ⟨as, bs, p, xs, rfl, g1, g2, g3, g4, g5⟩ := aok_mid h3
      exact ⟨_ :: as, bs, p, xs, rfl, .cons h1.1 g1, g2, g3, g4, .inr g5⟩
section
variable {K : PySem.W.Frag} {w : World} {δ : List Slot} {te ta tb tc : TE} {tr : TA} {tt : TT} {t u : TS} {d : Dn} {Φ : Slot → List Slot → Prop} {n1 n2 : Nat} {pre : List PyData → List PyData → List PyData → Prop} {T : List PyData → List PyData → List PyData → PyData → Prop} {E : XK}
theorem ev_callO (h : EvA K tr δ fun ss δ1 => ∃ d1 zs d2, ss = d1.map .pu ++ .ow (RL K zs) :: d2.map .pu ∧ d1.length = n1 ∧ d2.length = n2 ∧ pre d1 zs d2 ∧ ∀ z, T d1 zs d2 z → Φ (.pu z) δ1) : EvS K (tCall (spO K n1 n2 pre T) [] E tr) δ Φ := fun B H σ F Q S k =>
  h B H σ F _ S fun vs M ss B2 H2 δ1 e f S2' w nn ⟨d1, zs, d2, es, e1, e2, hp, q⟩ => by
    subst es
    obtain ⟨as, bs, p, xs, rfl, g1, g2, g3, g4, g5⟩ := aok_mid w
    show spO K n1 n2 pre T (_ ++ []) H2 Q E
    rw [List.append_nil]
    have hbp : B2 p = none := S2'.fb p (.inr g5)
    refine ⟨B2, as, bs, p, xs, d1, zs, d2, rfl, S2'.bh, hbp, g3, g4, g1, g2, e1, e2, hp, fun z H3 k1 hz hT => ?_⟩
    have same : ∀ a, H2 a ≠ none → a ≠ p → H3 a = H2 a := fun a ha hn => by
      obtain ⟨o, ho⟩ := some_of_ne ha
      rw [ho]
      exact k1 a o hn ho
    have np : ∀ a, F a → a ≠ p := fun a ha e => nn p g5 (e ▸ ha)
    have eb : Ex B2 H3 := fun a o ho => k1 a o (fun e => by rw [e, hbp] at ho; cases ho) (S2'.bh a o ho)
    obtain ⟨ms, h1, h2, h3, h4⟩ := S2'.sl
    have S3 : Sd K B2 H3 σ δ1 F := by
      refine ⟨eb, S2'.len, fun a ha => S2'.fb a (.inl ha), fun a ha => by rw [same a (S2'.fl a (.inl ha)) (np a ha)]; exact S2'.fl a (.inl ha), ms, fun i s hs => ?_, h2, fun i a q z => h3 i a q (.inl z), h4⟩
      have q2 := h1 i s hs
      cases s with
      | non => exact q2
      | pu x => exact q2
      | ow R =>
        obtain ⟨u, e5, hP, hb⟩ := q2
        exact ⟨u, e5, R.loc hP (Ex.refl _) fun a ha => same a (R.live hP a ha) fun e => h3 i a ha (.inr (e ▸ g5)), hb⟩
      | al j => exact q2
    exact k _ (fun _ => False) (.pu z) B2 H3 δ1 e (fun a z => (same a (S2'.fl a (.inl z)) (np a z)).trans (f a z)) (S3.less fun a z => z.elim id False.elim) ⟨dp_flat hz, fun _ z => z⟩ (fun _ z => z.elim) (q z hT)
theorem sd_startO {B H : Hp} {as bs xs : List V} {p : Addr} {d1 zs d2 : List PyData} {N : List Str} (e : Ex B H) (hb : B p = none) (hp : H p = some (.lst xs)) (hx : DpAll K B xs zs) (h1 : DpAll K B as d1) (h2 : DpAll K B bs d2) : Sd K B H (L2.start N (as ++ .ref p :: bs)) (d1.map Slot.pu ++ .ow (RL K zs) :: (d2.map Slot.pu ++ List.replicate (N.length - (d1.length + d2.length + 1)) Slot.non)) (fun a => H a ≠ none ∧ B a = none ∧ a ≠ p) := by
  have l1 := dpa_len h1
  have l2 := dpa_len h2
  have est : L2.start N (as ++ .ref p :: bs) = as.map some ++ some (.ref p) :: (bs.map some ++ List.replicate (N.length - (d1.length + d2.length + 1)) none) := by
    unfold L2.start
    rw [List.map_append, List.map_cons, List.append_assoc, List.cons_append, List.length_append, List.length_cons, l1, l2]
    rfl
  rw [est]
  refine ⟨e, by simp [l1, l2], fun a z => z.2.1, fun a z => z.1, fun k a => k = d1.length ∧ a = p, fun k s hs => ?_, fun k j a z1 z2 => by rw [z1.1, z2.1], fun k a z f => f.2.2 z.2, fun k a z => by rw [z.1]; simp⟩
  by_cases c1 : k < d1.length
  · rw [List.getElem?_append_left (by rw [List.length_map]; exact c1), List.getElem?_map] at hs
    cases hd : d1[k]? with
    | none => rw [hd] at hs; cases hs
    | some x =>
      rw [hd] at hs
      cases hs
      obtain ⟨v, hv, hxx⟩ := dpa_get h1 hd
      rw [List.getElem?_append_left (by rw [List.length_map, l1]; exact c1), List.getElem?_map, hv]
      exact ⟨v, rfl, hxx, fun a z => by omega⟩
  · rw [List.getElem?_append_right (by rw [List.length_map]; omega), List.length_map] at hs
    rw [List.getElem?_append_right (by rw [List.length_map, l1]; omega), List.length_map, l1]
    cases hk : k - d1.length with
    | zero =>
      rw [hk] at hs
      cases hs
      have ek : k = d1.length := by omega
      refine ⟨.ref p, rfl, ⟨p, xs, rfl, hp, hx, fun a => ⟨fun z => z.2, fun z => ⟨ek, z⟩⟩⟩, fun a z => by rw [z.2]; exact hb⟩
    | succ m =>
      rw [hk, List.getElem?_cons_succ] at hs
      rw [List.getElem?_cons_succ]
      by_cases c2 : m < d2.length
      · rw [List.getElem?_append_left (by rw [List.length_map]; exact c2), List.getElem?_map] at hs
        cases hd : d2[m]? with
        | none => rw [hd] at hs; cases hs
        | some x =>
          rw [hd] at hs
          cases hs
          obtain ⟨v, hv, hxx⟩ := dpa_get h2 hd
          rw [List.getElem?_append_left (by rw [List.length_map, l2]; exact c2), List.getElem?_map, hv]
          exact ⟨v, rfl, hxx, fun a z => by omega⟩
      · rw [List.getElem?_append_right (by rw [List.length_map]; omega)] at hs
        rw [List.eq_of_mem_replicate (List.mem_of_getElem? hs)]
        exact fun a z => by omega
abbrev DnO (T : PyData → Prop) : Dn := { nx := fun _ => T .none, rt := fun s _ => ∃ z, s = .pu z ∧ flatD z = true ∧ T z }
theorem body_O {N : List Str} {vs : List V} {H : Hp} {Q : VK} (h : spO K n1 n2 pre T vs H Q E)
    (hx : ∀ d1 zs d2, d1.length = n1 → d2.length = n2 → pre d1 zs d2 → ExS K t (DnO (T d1 zs d2)) (d1.map Slot.pu ++ .ow (RL K zs) :: (d2.map Slot.pu ++ List.replicate (N.length - (d1.length + d2.length + 1)) Slot.non))) : t { nx := fun _ H' => Q .non H', rt := Q } (L2.start N vs) H := by
  obtain ⟨B, as, bs, p, xs, d1, zs, d2, rfl, eB, hb, hp, hxs, h1, h2, e1, e2, hpre, q⟩ := h
  have fin : ∀ B2 H2 σ2 δ2 F', Ex B B2 → (∀ a, (H a ≠ none ∧ B a = none ∧ a ≠ p) → H2 a = H a) → Sd K B2 H2 σ2 δ2 F' → ∀ a o, a ≠ p → H a = some o → H2 a = some o := fun B2 H2 σ2 δ2 F' e f S a o ha ho => by
    cases hba : B a with
    | none => rw [f a ⟨nn_of ho, hba, ha⟩]; exact ho
    | some o' =>
      have e3 := eB a o' hba
      rw [ho] at e3
      cases e3
      exact S.bh a o (e a o hba)
  refine hx d1 zs d2 e1 e2 hpre B H _ _ _ (sd_startO (N := N) eB hb hp hxs h1 h2) ⟨fun B2 H2 σ2 δ2 e f S hT => q .none H2 (fin B2 H2 σ2 δ2 _ e f S) rfl hT, fun _ _ _ _ _ _ _ z => z.elim, fun _ _ _ _ _ _ _ z => z.elim, fun v Mv s B2 H2 σ2 δ2 e f S w nF ⟨z, es, hz, hT⟩ => ?_, fun _ _ _ _ _ _ _ _ _ _ _ z => False.elim z⟩
  subst es
  rw [flat_val hz w.1]
  exact q z H2 (fin B2 H2 σ2 δ2 _ e f S) hz hT
theorem calO {P : Program} {mg : Str → Option Value} {base : Heap} {x : Str} {st : Stmt} {N ps : List Str} {k : Nat} (D : Df K mg x st ps) (S : FnScope N ps (defScope st)) (hn : ps.length = n1 + n2 + 1)
    (hbody : ∀ (f : Addr) (cdv : Value) (A : Around) (outer : List Env) (s : Shared) (H : Hp) (E : XK), Room k (A.deeper (envOfC x (defScope st) s.heap.objs.size f cdv)) →
      ∃ t, PSs (cxOf CX0 P w K mg base N x (defScope st) f cdv A outer s H E).nox (defBody st) t ∧ ∀ d1 zs d2, d1.length = n1 → d2.length = n2 → pre d1 zs d2 → ExS K t (DnO (T d1 zs d2)) (d1.map Slot.pu ++ .ow (RL K zs) :: (d2.map Slot.pu ++ List.replicate (N.length - (d1.length + d2.length + 1)) Slot.non))) : Cal P w K mg base (k + 1) x (spO K n1 n2 pre T) := by
  obtain ⟨f, fd, F, hm, hb⟩ := D.ex
  refine ⟨f, fd, ps, F.ok S (fun vs H Q E h => by rw [spO_len h, hn]) (fun cdv A outer s H vs Q E hr h => ?_), hm, F.kp, hb⟩
  obtain ⟨t, ht, hx⟩ := hbody f cdv A outer s H E hr
  exact ⟨t, ht, body_O h hx⟩
end
section
variable {K : PySem.W.Frag} {δ : List Slot} {te : TE} {Φ : Slot → List Slot → Prop}
/-- the list of draws at a name is told as draws from here on -/
theorem ev_dice {j : Nat} {xs : List Int} (hj : δ[j]? = some (.ow (RL K (xs.map PyData.int)))) (ok : DiceOk xs) (h : ∀ a, EvS K te (δ.set j (.ow (RDi a))) Φ) : EvS K te δ Φ := fun B H σ F Q S k => by
  obtain ⟨v, M, ev, ⟨p, ys, rfl, hp, ha, hM⟩, hb, hF, op⟩ := S.opn hj
  rw [dpa_ints_inv ha] at hp
  have q := op B H (some (.ref p)) (.ow (RDi p)) M (Ex.refl _) S.bh (fun _ _ h _ => h) (fun _ _ h => .inl h) ⟨_, rfl, ⟨rfl, ⟨xs, ok, hp⟩, hM⟩, hb⟩ (fun a z => .inl z)
  rw [set_self ev] at q
  exact h p B H σ F Q q k
end
end Dl

/-! Dl21: is, is not of bools. -/
namespace Dl
open PySem PySem.Spec PyProof.Rows L2
open Evl (Ex)
section
variable {K : PySem.W.Frag} {δ : List Slot} {ta tb : TE} {Φ : Slot → List Slot → Prop}
theorem ev_notB (h : EvS K ta δ fun s1 δ1 => EvS K tb δ1 fun s2 δ2 => ∃ a b : Bool, s1 = .pu (.bool a) ∧ s2 = .pu (.bool b) ∧ Φ (.pu (.bool (!decide (a = b)))) δ2) : EvS K (tOp rNotB ta tb) δ Φ :=
  ev_opP (h.imp fun s1 δ1 h1 => h1.imp fun s2 δ2 ⟨a, b, e1, e2, q⟩ => ⟨.bool a, .bool b, .bool (!decide (a = b)), .inl e1, .inl e2, opP_flat rfl fun B H u v Q e d1 d2 k => ⟨a, b, dr_bl d1, dr_bl d2, k⟩, q⟩)
theorem ev_isB (h : EvS K ta δ fun s1 δ1 => EvS K tb δ1 fun s2 δ2 => ∃ a b : Bool, s1 = .pu (.bool a) ∧ s2 = .pu (.bool b) ∧ Φ (.pu (.bool (decide (a = b)))) δ2) : EvS K (tOp rIsB ta tb) δ Φ :=
  ev_opP (h.imp fun s1 δ1 h1 => h1.imp fun s2 δ2 ⟨a, b, e1, e2, q⟩ => ⟨.bool a, .bool b, .bool (decide (a = b)), .inl e1, .inl e2, opP_flat rfl fun B H u v Q e d1 d2 k => ⟨a, b, dr_bl d1, dr_bl d2, k⟩, q⟩)
end
end Dl

/-! Dl22: lists of things that are owned with them; a part in focus; comprehensions over references whose body changes what is owned. -/
namespace Dl
open PySem PySem.Spec PyProof.Rows L2
open Evl (Ex)
section
variable {K : PySem.W.Frag} {w : World} {δ : List Slot} {te ta tb tc : TE} {tr : TA} {tt : TT} {t u : TS} {d : Dn} {Φ : Slot → List Slot → Prop}
/-- what several temporaries own -/
theorem aok_blocks {σ : L2.St} {B H : Hp} : ∀ {bs : List (Addr × Cells)} {vs : List V} {M : Addr → Prop}, AOk K σ δ B H vs (bs.map fun b => .ow (RH K b.1 b.2)) M → vs = (bs.map (·.1)).map V.ref ∧ (∀ y ∈ (bs.map (·.2)).flatten, CellAt K B (H y.1) y.2) ∧ ((bs.map (·.2)).flatten.map (·.1)).Nodup ∧ ∀ a, M a ↔ a ∈ (bs.map (·.2)).flatten.map (·.1)
  | [], _, _, h => by cases h; exact ⟨rfl, (fun _ h => nomatch h), List.nodup_nil, fun a => ⟨fun z => z.elim, fun z => nomatch z⟩⟩
  | b :: bs, _, _, h => by
    cases h with
    | cons h1 h2 h3 =>
      obtain ⟨rfl, g1, g2, g3⟩ := h1
      obtain ⟨rfl, k1, k2, k3⟩ := aok_blocks h3
      refine ⟨rfl, fun y hy => ?_, ?_, fun a => ?_⟩
      · rw [List.map_cons, List.flatten_cons] at hy
        exact (List.mem_append.mp hy).elim (g1 y) (k1 y)
      · rw [List.map_cons, List.flatten_cons, List.map_append, List.nodup_append]
        exact ⟨g2, k2, fun x hx y hy e => h2 x ((g3 x).mpr hx) ((k3 x).mpr (e ▸ hy))⟩
      · rw [List.map_cons, List.flatten_cons, List.map_append, List.mem_append, ← g3 a, ← k3 a]
/-- [a, b, ..] of things that are owned -/
theorem ev_lstB (h : EvA K tr δ fun ss δ1 => ∃ bs : List (Addr × Cells), ss = (bs.map fun b => .ow (RH K b.1 b.2)) ∧ bs.length ≤ 100000 ∧ ∀ D, Φ (.ow (RH K D (blocks D bs))) δ1) : EvS K (tLst tr) δ Φ := fun B H σ F Q S k =>
  h B H σ F _ S fun vs M ss B2 H2 δ1 e f S2 w n ⟨bs, es, hl, q⟩ => by
    subst es
    obtain ⟨rfl, k1, k2, k3⟩ := aok_blocks w
    refine ⟨Evl.sz_of (by rw [List.length_map, List.length_map]; exact hl), fun D hD => ?_⟩
    have nD : ∀ a, M a → a ≠ D := fun a ha z => S2.fl a (.inr ha) (by rw [z]; exact hD)
    have S3 := sd_own (o := .lst ((bs.map (·.1)).map V.ref)) S2 hD
    refine k (.ref D) (fun a => M a ∨ a = D) (.ow (RH K D (blocks D bs))) B2 _ δ1 e (fun a z => ?_) (S3.less fun a z => ?_) ⟨rfl, fun y hy => ?_, ?_, fun a => ?_⟩ (fun a z hf => ?_) (q D)
    · rw [upd_ne (fun z2 => S2.fl a (.inl z) (by rw [z2]; exact hD)), f a z]
    · rcases z with z | z | z
      · exact .inl (.inl z)
      · exact .inl (.inr z)
      · exact .inr z
    · rcases List.mem_cons.mp hy with rfl | hy
      · exact ⟨_, upd_same, cva_refs' _⟩
      · have hm : M y.1 := (k3 y.1).mpr (List.mem_map.mpr ⟨y, hy, rfl⟩)
        rw [upd_ne (nD _ hm)]
        exact k1 y hy
    · show (D :: ((bs.map (·.2)).flatten).map (·.1)).Nodup
      exact List.nodup_cons.mpr ⟨fun z => nD D ((k3 D).mpr z) rfl, k2⟩
    · show _ ↔ a ∈ D :: ((bs.map (·.2)).flatten).map (·.1)
      rw [List.mem_cons, ← k3 a]
      exact ⟨fun z => z.elim .inr .inl, fun z => z.elim .inr .inl⟩
    · rcases z with z | z
      · exact n a z hf
      · exact S2.fl a (.inl hf) (by rw [z]; exact hD)
/-- some cells in focus -/
theorem foc_cells {I : Type} {adr : I → Addr} {R : I → Res} {cell : I → Cells} {root : Addr} {pre post : Cells} (hR : ∀ i, R i = RH K (adr i) (cell i)) (i : I) : Foc adr (fun i' => RH K root (pre ++ (cell i' ++ post))) R i := fun v B H M h => by
  have h' : (RH K root (pre ++ (cell i ++ post))).P v B H M := h
  have hlive := (RH K root (pre ++ (cell i ++ post))).live h'
  obtain ⟨h0, h1, h2, h3⟩ := h'
  rw [List.map_append, List.map_append] at h2 h3
  obtain ⟨n1, n2, n3⟩ := List.nodup_append.mp h2
  obtain ⟨n4, n5, n6⟩ := List.nodup_append.mp n2
  refine ⟨fun c => c ∈ (cell i).map (·.1), ?_, fun c hc => (h3 c).mpr (List.mem_append_right _ (List.mem_append_left _ hc)), fun i' B2 H2 M1' ea e1 k hP hm => ?_⟩
  · rw [hR i]
    exact ⟨rfl, fun y hy => h1 y (List.mem_append_right _ (List.mem_append_left _ hy)), n4, fun c => Iff.rfl⟩
  · rw [hR i'] at hP
    obtain ⟨_, g1, g2, g3⟩ := hP
    have hpre : ∀ y ∈ pre, M y.1 ∧ y.1 ∉ (cell i).map (·.1) := fun y hy => ⟨(h3 _).mpr (List.mem_append_left _ (List.mem_map.mpr ⟨y, hy, rfl⟩)), fun z => n3 y.1 (List.mem_map.mpr ⟨y, hy, rfl⟩) y.1 (List.mem_append_left _ z) rfl⟩
    have hpost : ∀ y ∈ post, M y.1 ∧ y.1 ∉ (cell i).map (·.1) := fun y hy => ⟨(h3 _).mpr (List.mem_append_right _ (List.mem_append_right _ (List.mem_map.mpr ⟨y, hy, rfl⟩))), fun z => n6 y.1 z y.1 (List.mem_map.mpr ⟨y, hy, rfl⟩) rfl⟩
    have new : ∀ c, c ∈ (cell i').map (·.1) → c ∈ (cell i).map (·.1) ∨ H c = none := fun c hc => hm c ((g3 c).mpr hc)
    refine ⟨h0, fun y hy => ?_, ?_, fun c => ?_⟩
    · rcases List.mem_append.mp hy with hy | hy
      · rw [k y.1 (hpre y hy).1 (hpre y hy).2]
        exact cell_mono e1 (h1 y (List.mem_append_left _ hy))
      · rcases List.mem_append.mp hy with hy | hy
        · exact g1 y hy
        · rw [k y.1 (hpost y hy).1 (hpost y hy).2]
          exact cell_mono e1 (h1 y (List.mem_append_right _ (List.mem_append_right _ hy)))
    · rw [List.map_append, List.map_append, List.nodup_append, List.nodup_append]
      refine ⟨n1, ⟨g2, n5, fun x hx y hy e => ?_⟩, fun x hx y hy e => ?_⟩
      · subst e
        obtain ⟨z, hz, rfl⟩ := List.mem_map.mp hy
        rcases new _ hx with q | q
        · exact (hpost z hz).2 q
        · exact hlive _ (hpost z hz).1 q
      · subst e
        obtain ⟨z, hz, rfl⟩ := List.mem_map.mp hx
        rcases List.mem_append.mp hy with hy | hy
        · rcases new _ hy with q | q
          · exact (hpre z hz).2 q
          · exact hlive _ (hpre z hz).1 q
        · exact n3 z.1 hx z.1 (List.mem_append_right _ hy) rfl
    · rw [List.map_append, List.map_append, List.mem_append, List.mem_append]
      constructor
      · rintro (⟨z, z2⟩ | z)
        · rcases List.mem_append.mp ((h3 c).mp z) with y | y
          · exact .inl y
          · rcases List.mem_append.mp y with y | y
            · exact absurd y z2
            · exact .inr (.inr y)
        · exact .inr (.inl ((g3 c).mp z))
      · rintro (z | z | z)
        · obtain ⟨y, hy, rfl⟩ := List.mem_map.mp z
          exact .inl (hpre y hy)
        · exact .inr ((g3 c).mpr z)
        · obtain ⟨y, hy, rfl⟩ := List.mem_map.mp z
          exact .inl (hpost y hy)
/-- xs[i], xs at a name a list of references -/
theorem ev_ixA {i : Nat} {k : Int} {R : Res} {b a : Addr} {as : List Addr} (hi : δ[i]? = some (.ow R)) (hat : IsAt R b) (hs : ShowsR R b as) (ha : atI as k = some a) (q : Φ (.ow (RRef a)) δ) : EvS K (tOp (rIxL K) (tVar i) (tC (.int k))) δ Φ := fun B H σ F Q S kk => by
  obtain ⟨v, M, ev, hP, _⟩ := S.opn hi
  obtain rfl := hat _ _ _ _ hP
  have hb := hs _ _ _ _ hP
  have hx : atI (as.map V.ref) k = some (V.ref a) := by
    unfold atI at ha ⊢
    rw [List.length_map]
    generalize ixN as.length k = o at ha
    cases o with
    | none => cases ha
    | some j =>
      have ha : as[j]? = some a := ha
      show (as.map V.ref)[j]? = _
      rw [List.getElem?_map, ha]
      rfl
  exact ⟨_, ev, b, _, k, _, rfl, rfl, SqL.of hb, hx, kk _ (fun _ => False) (.ow (RRef a)) B H δ (Ex.refl _) (fun _ _ => rfl) (S.less fun a z => z.elim id False.elim) ⟨rfl, fun _ z => z⟩ (fun _ z => z.elim) q⟩
/-- xs[lo:hi] of references -/
def cutA (as : List Addr) (lo hi : Option Int) : List Addr := (as.drop (HT.sIx as.length 0 lo)).take (HT.sIx as.length as.length hi - HT.sIx as.length 0 lo)
theorem ev_slA {tl th : TO} {i : Nat} (h0 : ∃ R b, δ[i]? = some (.ow R) ∧ IsAt R b) (h : EvO K tl δ fun lo δ2 => EvO K th δ2 fun hi δ3 => ∃ R b as, δ3[i]? = some (.ow R) ∧ IsAt R b ∧ ShowsR R b as ∧ ∀ p, Φ (.ow (RH K p [(p, .lst ((cutA as lo hi).map .r))])) δ3) : EvS K (tSl (rSlL K) (tVar i) tl th) δ Φ := fun B H σ F Q S kk => by
  obtain ⟨R0, b0, hi0, hat0⟩ := h0
  obtain ⟨v, M, ev, hP, _⟩ := S.opn hi0
  obtain rfl := hat0 _ _ _ _ hP
  refine ⟨_, ev, h B H σ F _ S fun lo B2 H2 δ2 e2 f2 S2 p2 => p2 B2 H2 σ F _ S2 fun hi B3 H3 δ3 e3 f3 S3 ⟨R, b, as, hi3, hat, hs, q⟩ => ?_⟩
  obtain ⟨v', M', ev', hP', _⟩ := S3.opn hi3
  obtain rfl := hat _ _ _ _ hP'
  rw [ev] at ev'
  cases ev'
  refine ⟨_, _, rfl, SqL.of (hs _ _ _ _ hP'), fun p hp => ?_⟩
  have ec : cutV (as.map V.ref) lo hi = (cutA as lo hi).map V.ref := by
    unfold cutV cutA
    rw [List.length_map, ← List.map_drop, ← List.map_take]
  rw [ec]
  refine kk (.ref p) (fun a => a = p) (.ow (RH K p _)) B3 _ δ3 (e2.trans e3) (fun a ha => ?_) (sd_own S3 hp) ⟨rfl, fun y hy => ?_, by simp, fun a => by simp⟩ (fun a ha f => ?_) (q p)
  · rw [upd_ne (fun z => S3.fl a ha (by rw [z]; exact hp)), f3 a ha, f2 a ha]
  · rw [List.mem_singleton.mp hy]
    exact ⟨_, upd_same, cva_refs' _⟩
  · rw [ha] at f; exact S3.fl p f hp
theorem set_same_get {α : Type} {l : List α} {j : Nat} {x y : α} (h : l[j]? = some y) : (l.set j x).set j y = l := by
  rw [List.set_set]
  apply List.ext_getElem?
  intro k
  by_cases e : k = j
  · subst e
    rw [h, List.getElem?_set_self (List.getElem?_eq_some_iff.mp h).1]
  · rw [List.getElem?_set_ne (Ne.symm e)]
/-- [e for x in references ..], the body may change what is owned -/
theorem ev_lcG {j : Nat} (h : EvS K ta δ fun s δ1 => ∃ (p : Addr) (as : List Addr), j < δ1.length ∧ ∃ Pv : Nat → List PyData → List Slot → Prop, (s = .ow (RH K p [(p, .lst (as.map .r))]) ∨ ((∃ i R, s = .al i ∧ δ1[i]? = some (.ow R) ∧ IsAt R p) ∧ ∀ i acc δ', Pv i acc δ' → ∃ (k : Nat) (R : Res), δ'[k]? = some (.ow R) ∧ ShowsR R p as)) ∧
    (∀ i acc δ', Pv i acc δ' → δ'.length = δ1.length ∧ Junk (δ'.getD j .non)) ∧ Pv 0 [] δ1 ∧
    (∀ i a acc δ', as[i]? = some a → Pv i acc δ' → EvD K te (δ'.set j (.ow (RRef a))) fun y δ2 => ∃ δ3, δ2 = δ3.set j (.ow (RRef a)) ∧ δ3[j]? = δ'[j]? ∧ acc.length < 100000 ∧ Pv (i + 1) (acc ++ [y]) δ3) ∧
    ∀ acc δ', Pv as.length acc δ' → Φ (.ow (RL K acc)) δ') : EvS K (tLc (iList K ta) (gName j) tYes te [j]) δ Φ := fun B H σ F Q S kk =>
  h B H σ F _ S fun v M s B2 H2 δ1 e f S2 w nF0 ⟨p, as, hj, Pv, hsrc, hlen, h0, hs, hd⟩ => by
    -- where the references stand
    have src : v = .ref p ∧ ∀ i acc δ' B' H', Pv i acc δ' → (∀ a, F a ∨ M a → H' a = H2 a) → Sd K B' H' σ δ' (fun a => F a ∨ M a) → H' p = some (.lst (as.map V.ref)) := by
      rcases hsrc with es | ⟨⟨i0, R0, es, h0', hat⟩, hsh⟩
      · subst es
        obtain ⟨rfl, g1, _, g3⟩ := w
        refine ⟨rfl, fun i acc δ' B' H' _ k _ => ?_⟩
        obtain ⟨vs, q1, q2⟩ := g1 (p, .lst (as.map .r)) (List.mem_singleton.mpr rfl)
        rw [k p (.inr ((g3 p).mpr (by simp)))]
        rw [cva_refs q2] at q1
        exact q1
      · subst es
        obtain ⟨v', M', ev, hP, _⟩ := S2.opn h0'
        obtain rfl := hat _ _ _ _ hP
        rw [w.1] at ev
        cases ev
        refine ⟨rfl, fun i acc δ' B' H' pv _ S' => ?_⟩
        obtain ⟨k, R, hk, sh⟩ := hsh i acc δ' pv
        obtain ⟨v2, M2, ev2, hP2, _⟩ := S'.opn hk
        exact sh _ _ _ _ hP2
    obtain ⟨rfl, look⟩ := src
    refine ⟨p, rfl, ⟨_, SqL.of (look 0 [] δ1 B2 H2 h0 (fun _ _ => rfl) S2)⟩, fun D hD => ?_⟩
    have nF : ∀ a, F a ∨ M a → a ≠ D := fun a z e => S2.fl a z (by rw [e]; exact hD)
    let Inv := fun (i : Nat) (H' : Hp) => ∃ B' δ' xs acc, Ex B2 B' ∧ (∀ a, F a ∨ M a → H' a = H2 a) ∧ Sd K B' H' σ δ' (fun a => (F a ∨ M a) ∨ a = D) ∧ H' D = some (.lst xs) ∧ DpAll K B' xs acc ∧ Pv i acc δ'
    refine ⟨fun i m H' => m = as.length - i ∧ i ≤ as.length ∧ Inv i H', ⟨as.length, rfl, Nat.zero_le _, B2, δ1, [], [], Ex.refl _, fun a z => upd_ne (nF a z), sd_own S2 hD, upd_same, .nil, h0⟩, ?_⟩
    rintro i m H' ⟨rfl, hi, B', δ', xs, acc, e', f', S', hx, ha, pv⟩
    have hl' := look i acc δ' B' H' pv f' (S'.less fun a z => .inl z)
    by_cases hlt : i < as.length
    · have hw : (as.map V.ref)[i]? = some (.ref as[i]) := by rw [List.getElem?_map, List.getElem?_eq_getElem hlt]; rfl
      refine .inr ⟨⟨_, _, SqL.of hl', hw⟩, Inv (i + 1), fun H3 q => ⟨as.length - (i + 1), by omega, rfl, hlt, q⟩, fun x H3 hy => ?_⟩
      obtain ⟨e1, e2⟩ := hy
      subst e1
      have e3 := (e2 _ (SqL.of hl')).symm.trans hw
      cases e3
      obtain ⟨hl2, hjk⟩ := hlen i acc δ' pv
      have hjl : j < δ'.length := by rw [hl2]; exact hj
      have hσl := S'.len
      refine ⟨?_, ?_⟩
      · exact wipe_ext (by rw [List.length_set, wipe_length]) fun k hk => by rw [List.getElem?_set_ne (fun z => hk (by rw [z]; exact List.mem_singleton.mpr rfl)), wipe_out hk]
      · show if true = true then te ((wipe σ [j]).set j (some (.ref as[i]))) H3 fun y H4 => ∃ acc, H4 D = some (HO.lst acc) ∧ acc.length < sizeLine ∧ Inv (i + 1) (upd H4 D (HO.lst (acc ++ [y]))) else Inv (i + 1) H3
        rw [if_pos rfl]
        have S3 : Sd K B' H3 ((wipe σ [j]).set j (some (.ref as[i]))) (δ'.set j (.ow (RRef as[i]))) (fun a => (F a ∨ M a) ∨ a = D) := by
          have q := (S'.wiped [j]).put (i := j) (x := some (.ref as[i])) (s := .ow (RRef as[i])) (M := fun _ => False) ⟨_, rfl, ⟨rfl, fun _ z => z⟩, fun _ z => z.elim⟩ (fun _ _ _ _ _ z => z.elim) (fun _ z => z.elim) (by rw [wipeD_len]; exact hjl)
          have e4 : (wipeD δ' [j]).set j (.ow (RRef as[i])) = δ'.set j (.ow (RRef as[i])) := by
            show (δ'.set j .non).set j _ = _
            rw [List.set_set]
          rw [e4] at q
          exact q
        refine hs i as[i] acc δ' (List.getElem?_eq_getElem hlt) pv B' H3 _ _ _ S3 fun y yd B4 H4 δ4 e4 f4 S4 hyd ⟨δ3, ed, ej, hacc, pn⟩ => ?_
        subst ed
        have hx4 : H4 D = some (.lst xs) := by rw [f4 D (.inr rfl)]; exact hx
        obtain ⟨hl3, hjk3⟩ := hlen (i + 1) _ δ3 pn
        have hBD : B4 D = none := S4.fb D (.inr rfl)
        have jl3 : j < δ3.length := by rw [hl3]; exact hj
        -- the block's name is as it was
        have S5 : Sd K B4 H4 σ δ3 (fun a => (F a ∨ M a) ∨ a = D) := by
          obtain ⟨ms, h1, h2, h3, h4⟩ := S'.sl
          obtain ⟨ms2, k1, k2, k3, k4⟩ := S4.sl
          refine ⟨S4.bh, by rw [hσl, hl2, hl3], S4.fb, S4.fl, fun k a => k ≠ j ∧ ms2 k a, fun k s hk => ?_, fun k l a q1 q2 => k2 k l a q1.2 q2.2, fun k a q => k3 k a q.2, fun k a q => by have := k4 k a q.2; rw [List.length_set] at this; exact this⟩
          by_cases ek : k = j
          · subst ek
            have hk' : δ'[k]? = some s := by rw [← ej]; exact hk
            have q := h1 k s hk'
            rw [List.getD_eq_getElem?_getD, hk'] at hjk
            rcases hjk with z | ⟨d, z⟩
            · rw [show s = .non from z]
              exact fun a z => z.1 rfl
            · have z : s = .pu d := z
              subst z
              obtain ⟨v, ev, hd, _⟩ := q
              exact ⟨v, ev, dp_mono e4 _ _ hd, fun a z => z.1 rfl⟩
          · have q := k1 k s (by rw [List.getElem?_set_ne (Ne.symm ek)]; exact hk)
            rw [List.getElem?_set_ne (Ne.symm ek), wipe_out (fun z => ek (List.mem_singleton.mp z))] at q
            have eM : (fun a => k ≠ j ∧ ms2 k a) = ms2 k := funext fun a => propext ⟨fun z => z.2, fun z => ⟨ek, z⟩⟩
            show SlotIn K B4 H4 σ[k]? (fun a => k ≠ j ∧ ms2 k a) s
            rw [eM]
            exact q
        refine ⟨xs, hx4, Evl.sz_lt (by rw [dpa_len ha]; exact hacc), B4, δ3, xs ++ [y], acc ++ [yd], e'.trans e4, fun a z => ?_, ?_, upd_same, dpa_append (dpa_mono e4 _ _ ha) (dpa_one hyd), pn⟩
        · rw [upd_ne (nF a z), f4 a (.inl z), f' a z]
        · obtain ⟨ms, h1, h2, h3, h4⟩ := S5.sl
          refine ⟨fun a u ha' => ?_, S5.len, S5.fb, fun a z => ?_, ms, fun k s hk => ?_, h2, h3, h4⟩
          · rw [upd_ne (fun z => by rw [z, hBD] at ha'; cases ha')]
            exact S5.bh a u ha'
          · by_cases e5 : a = D
            · rw [e5, upd_same]; exact fun z => nomatch z
            · rw [upd_ne e5]; exact S5.fl a z
          · have q := h1 k s hk
            cases s with
            | non => exact q
            | pu x => exact q
            | ow R =>
              obtain ⟨v, ev, hP, hb'⟩ := q
              exact ⟨v, ev, R.loc hP (Ex.refl _) fun a z => upd_ne fun e5 => h3 k a z (.inr e5), hb'⟩
            | al _ => exact q
    · have e1 : i = as.length := by omega
      subst e1
      refine .inl ⟨⟨_, SqL.of hl', by rw [List.length_map]; exact Nat.le_refl _⟩, ?_⟩
      exact kk (.ref D) (fun a => a = D) (.ow (RL K acc)) B' H' δ' (e.trans e') (fun a z => (f' a (.inl z)).trans (f a z)) (S'.less fun a z => z.elim (fun z => .inl (.inl z)) .inr) ⟨D, xs, rfl, hx, ha, fun _ => Iff.rfl⟩ (fun a z z2 => nF a (.inl z2) z) (hd acc δ' pv)
end
end Dl

/-! Rk6: max(d.values()), a dict of ints. -/
namespace Rk
open PySem PySem.Spec PyProof PyProof.Rows L2
/-- the greatest value of a dict of ints that has one -/
def tMaxV (td : TE) : TE := fun σ H Q => td σ H fun x H' => ∃ (d : Addr) (kv : List (Key × V)) (ns : List Int), x = .ref d ∧ H' d = some (.dK kv) ∧ kv.map Prod.snd = ns.map V.int ∧ 0 < ns.length ∧ ∀ g, g ∈ ns → (∀ n ∈ ns, n ≤ g) → Q (.int g) H'
variable {X : Cx} {eo : Expr} {pf pc pa pm : Pos} {td : TE}
theorem pe_maxV (calm : X.calm = true) (glob : Gl X "max") (own : X.mg "max" = none) (he : PE X eo td) (base : attributeBase eo "values" X.env (eval eo X.env) = eval eo X.env := by rfl) (same : (pa.endLine == pm.line) = true := by rfl)
    (plain : starEach [Expr.Call (.Attribute eo "values" pa) [] [] pm] X.env = [(false, eval (Expr.Call (.Attribute eo "values" pa) [] [] pm) X.env)] := by rfl) : PE X (.Call (.Name "max" pf) [.Call (.Attribute eo "values" pa) [] [] pm] [] pc) (tMaxV td) := by
  refine ⟨fun pins st σ H Q inv h => ?_⟩
  refine wpAny_Call_Name_kw (ld_blt inv glob own (u := .builtin "max") (by first | rfl | decide +kernel) ?goOn (by first | decide +kernel | decide) (by first | decide +kernel | decide))
  case goOn =>
    rw [plain]
    refine PySem.callWith_builtin1 (wpAny_Call_method0_late base same (thn (he.run pins st σ H _ inv h) fun val st' got => ?_))
    obtain ⟨x, G, inv', rx, d, kv, ns, rfl, hd, hns, hpos, ask⟩ := got
    cases (show val = Value.ref d from rx)
    obtain ⟨_, notSys, vals, pairs, isDict⟩ := dk_of inv'.hok hd
    obtain ⟨ep, at_⟩ := isDict.dictAt
    obtain ⟨ob, es, hob, cls, _⟩ := id at_
    refine ⟨"dict", "dict.values", F.plainAttrs_dict, F.slot_dict_values, F.type_dict_values, ⟨ob, hob, cls.1⟩, fun c ec => by cases ec; exact ⟨ob, hob, cls.2.1⟩, Calls.callWith_builtin rfl (PySem.evalArgs_none ?_)⟩
    refine call_meetsIn F.slot_dict_values ⟨ob, hob, cls.1⟩ F.entry_dict_values (F.args_dict_values_1 _) (meets_dict_values (mixKind X.prog X.w) d notSys) ⟨⟨vals, isDict⟩, ?_⟩
    -- the view stands at the next address
    generalize hview : st'.heap.push { cls := .type "dict_values", data := .fields #[.ref d] } = heap1
    have grow : ∀ c o, st'.heap.get? c = some o → heap1.get? c = some o := fun c o hc => hview ▸ Heap.get?_push_of_some _ hc
    have at1 : heap1.DictAt (mixKind X.prog X.w) d vals ep := at_.keep grow
    have size1 : heap1.objs.size = st'.heap.objs.size + 1 := hview ▸ Heap.size_push _ _
    have count : vals.length = ns.length := by
      have := congrArg List.length hns
      rw [List.length_map, List.length_map, KV.length pairs] at this
      exact this
    have item : ∀ (i : Nat) (u : Value), (∃ k, vals[i]? = some (k, u)) → ∃ t, u = Value.int (ns.getD i 0) t := fun i u hk => by
      obtain ⟨k, hk⟩ := hk
      obtain ⟨y, hy, ry⟩ := KV.at' pairs hk
      have hm : (kv.map Prod.snd)[i]? = some y := by rw [List.getElem?_map, hy]; rfl
      rw [hns, List.getElem?_map] at hm
      cases hn : ns[i]? with
      | none => rw [hn] at hm; cases hm
      | some z =>
        rw [hn] at hm
        cases hm
        obtain ⟨t, et⟩ := ry
        exact ⟨t, by rw [et, List.getD_eq_getElem?_getD, hn]; rfl⟩
    have isView : heap1.IsValuesView st'.heap.objs.size d := hview ▸ ⟨_, Heap.get?_push_size _ rfl, rfl, rfl⟩
    have dlt : d < st'.heap.objs.size := Heap.lt_size hob
    refine call_max_walk (wpAny_pyIter_values (v := st'.heap.objs.size) (d := d) isView at1 ?_)
    refine ⟨_, _, _, _, _, _, _, rfl, Walks.dictValues (knd := mixKind X.prog X.w) (A := X.A.in1) (inv'.ok.hd calm) heap1.objs.size d (by rw [size1]; exact Nat.ne_of_lt (Nat.lt_succ_of_lt dlt)) vals ep, ⟨⟨_, Heap.get?_push_size _ rfl, rfl, rfl⟩, at1.keep fun c o hc => Heap.get?_push_of_some _ hc⟩, fun c hc => ?_, by omega, CmpOf.ints_gt (fun i => ns.getD i 0) item, fun u heap2 toks hu keep => ?_⟩
    · show c < (heap1.push _).objs.size
      rw [Heap.size_push]
      rcases List.mem_cons.mp hc with rfl | hc
      · exact Nat.lt_succ_self _
      · cases List.mem_singleton.mp hc
        exact Nat.lt_succ_of_lt (by rw [size1]; exact Nat.lt_succ_of_lt dlt)
    · obtain ⟨t, rfl⟩ := item _ u hu
      obtain ⟨best1, best2⟩ := argBest_gt (fun i => ns.getD i 0) (vals.length - 1)
      have inn : argBest (fun i j => decide (ns.getD i 0 > ns.getD j 0)) (vals.length - 1) < ns.length := by omega
      refine ⟨.int _, G, inv'.kept (t' := toks) fun c o hc => keep c o (fun hmem => ?_) (Heap.get?_push_of_some _ (grow c o hc)), ⟨t, rfl⟩, ask _ ?_ fun n hn => ?_⟩
      · have isIt := List.mem_singleton.mp hmem
        have below := Heap.lt_size hc
        rw [isIt, size1] at below
        exact Nat.lt_irrefl _ (Nat.lt_trans (Nat.lt_succ_self _) below)
      · rw [List.getD_eq_getElem?_getD, List.getElem?_eq_getElem inn]
        exact List.getElem_mem inn
      · obtain ⟨i, hi, rfl⟩ := List.mem_iff_getElem.mp hn
        have below := best2 i (by omega)
        have here : ns.getD i 0 = ns[i] := by rw [List.getD_eq_getElem?_getD, List.getElem?_eq_getElem hi]; rfl
        rw [← here]
        exact below
end Rk
namespace Kk
open PySem PySem.Spec PyProof.Rows L2
end Kk
namespace Dl
open PySem PySem.Spec PyProof.Rows L2
open Evl (Ex)
section
variable {K : PySem.W.Frag} {δ : List Slot} {Φ : Slot → List Slot → Prop}
theorem kva_ints {B : Hp} : ∀ {xs : List (Key × V)} {kvs : List (Int × PyData)} {ns : List Int}, KvAll K B xs kvs → kvs.map Prod.snd = ns.map PyData.int → xs.map Prod.snd = ns.map V.int
  | _, _, [], .nil, _ => rfl
  | _, _, n :: ns, .cons h t, e => by
    rw [List.map_cons, List.map_cons] at e
    obtain ⟨e1, e2⟩ := List.cons.inj e
    have e1 : _ = PyData.int n := e1
    subst e1
    rw [List.map_cons, List.map_cons, kva_ints t e2, dp_int_inv h]
  | _, _, [], .cons _ _, e => by cases e
  | _, _, _ :: _, .nil, e => by cases e
/-- max(d.values()), d at a name -/
theorem ev_maxV {j : Nat} (h : ∃ (kvs : List (Int × PyData)) (ns : List Int), δ[j]? = some (.ow (RDk K kvs)) ∧ kvs.map Prod.snd = ns.map PyData.int ∧ 0 < ns.length ∧ ∀ g, g ∈ ns → (∀ n ∈ ns, n ≤ g) → Φ (.pu (.int g)) δ) : EvS K (Rk.tMaxV (tVar j)) δ Φ := fun B H σ F Q S k => by
  obtain ⟨kvs, ns, hj, hns, hpos, q⟩ := h
  obtain ⟨p, xs, ev, hp, ha⟩ := dk_at S hj
  exact ⟨_, ev, p, xs, ns, rfl, hp, kva_ints ha hns, hpos, fun g g1 g2 => k _ (fun _ => False) (.pu (.int g)) B H δ (Ex.refl _) (fun _ _ => rfl) (S.less fun a z => z.elim id False.elim) ⟨.int _, fun _ z => z⟩ (fun _ z => z.elim) (q g g1 g2)⟩
end
end Dl

/-! Dl23: defs that are handed the draws and an owned thing. -/
namespace Dl
open PySem PySem.Spec PyProof.Rows L2
open Evl (Ex)
/-- draws, data, what is owned, data: a flat answer -/
def spDM (K : PySem.W.Frag) {I : Type} (adr : I → Addr) (R : I → Res) (n1 n2 : Nat) (pre : I → List PyData → List PyData → Prop) (T : I → List PyData → List PyData → I → PyData → Prop) : Sp := fun vs H Q _ =>
  ∃ (B : Hp) (d : Addr) (i : I) (M : Addr → Prop) (xs : List Int) (as bs : List V) (d1 d2 : List PyData), vs = .ref d :: (as ++ .ref (adr i) :: bs) ∧ Ex B H ∧ B d = none ∧ H d = some (.lst (xs.map V.int)) ∧ DiceOk xs ∧ (R i).P (.ref (adr i)) B H M ∧ (∀ a, M a → B a = none) ∧ ¬ M d ∧ DpAll K B as d1 ∧ DpAll K B bs d2 ∧ d1.length = n1 ∧ d2.length = n2 ∧ pre i d1 d2 ∧
    ∀ (z : PyData) (B2 H2 : Hp) (i' : I) (M2 : Addr → Prop) (xs' : List Int), Ex B B2 → Ex B2 H2 → (∀ a o, H a = some o → a ≠ d → ¬ M a → H2 a = some o) → (∀ a o, B2 a = some o → B a = some o ∨ H a = none ∨ M a) → H2 d = some (.lst (xs'.map V.int)) → DiceOk xs' → adr i' = adr i → (R i').P (.ref (adr i)) B2 H2 M2 → (∀ a, M2 a → (M a ∨ H a = none) ∧ B2 a = none) → flatD z = true → T i d1 d2 i' z → Q (valD z) H2
section
variable {K : PySem.W.Frag} {w : World} {δ : List Slot} {te ta tb tc : TE} {tr : TA} {tt : TT} {t u : TS} {Φ : Slot → List Slot → Prop} {B H : Hp} {σ : L2.St} {F : Addr → Prop} {I : Type} {adr : I → Addr} {R : I → Res} {n1 n2 : Nat} {pre : I → List PyData → List PyData → Prop} {T : I → List PyData → List PyData → I → PyData → Prop} {E : XK}
theorem spDM_len {vs : List V} {Q : VK} (h : spDM K adr R n1 n2 pre T vs H Q E) : vs.length = n1 + n2 + 2 := by
  obtain ⟨B, d, i, M, xs, as, bs, d1, d2, rfl, _, _, _, _, _, _, _, h1, h2, e1, e2, _⟩ := h
  rw [List.length_cons, List.length_append, List.length_cons, dpa_len h1, dpa_len h2, e1, e2]
  omega
/-- the draws and what is owned at another name change -/
theorem Sd.two {i0 j : Nat} {d : Addr} {R0 : Res} (S : Sd K B H σ δ F) (h0 : δ[i0]? = some (.ow (RDi d))) (hj : δ[j]? = some (.ow R0)) (hne : i0 ≠ j) : ∃ v M, σ[i0]? = some (some (.ref d)) ∧ σ[j]? = some (some v) ∧ R0.P v B H M ∧ (∀ a, M a → B a = none) ∧ ¬ M d ∧ B d = none ∧ (∃ xs, DiceOk xs ∧ H d = some (.lst (xs.map V.int))) ∧ (∀ a, F a → ¬ M a ∧ a ≠ d) ∧
    ∀ (B2 H2 : Hp) (R' : Res) (M' : Addr → Prop) (xs' : List Int), Ex B B2 → Ex B2 H2 → (∀ a o, H a = some o → a ≠ d → ¬ M a → H2 a = some o) → (∀ a o, B2 a = some o → B a = some o ∨ H a = none ∨ M a) → H2 d = some (.lst (xs'.map V.int)) → DiceOk xs' → R'.P v B2 H2 M' → (∀ a, M' a → (M a ∨ H a = none) ∧ B2 a = none) → Sd K B2 H2 σ (δ.set j (.ow R')) F := by
  obtain ⟨ms, h1, h2, h3, h4⟩ := S.sl
  obtain ⟨v0, ev0, ⟨e0, ⟨xs, ok, hd⟩, hM0⟩, hb0⟩ := h1 i0 _ h0
  subst e0
  obtain ⟨v, ev, hP, hb⟩ := h1 j _ hj
  have md : ms i0 d := (hM0 d).mpr rfl
  have nd : ¬ ms j d := fun z => hne (h2 i0 j d md z)
  have hdn : H d ≠ none := by rw [hd]; exact fun z => nomatch z
  refine ⟨v, ms j, ev0, ev, hP, hb, nd, hb0 d md, ⟨xs, ok, hd⟩, fun a fa => ⟨fun z => h3 j a z fa, fun e => h3 i0 d md (e ▸ fa)⟩, fun B2 H2 R' M' xs' e1 e2 k nw hd2 ok2 hP' hM' => ?_⟩
  have il : j < δ.length := (List.getElem?_eq_some_iff.mp hj).1
  have fb2 : ∀ a, B a = none → H a ≠ none → ¬ ms j a → B2 a = none := fun a b1 b2 b3 => by
    cases q : B2 a with
    | none => rfl
    | some o =>
      rcases nw a o q with z | z | z
      · rw [b1] at z; cases z
      · exact absurd z b2
      · exact absurd z b3
  have keep : ∀ a, H a ≠ none → a ≠ d → ¬ ms j a → H2 a = H a := fun a ha hd' hn => by
    obtain ⟨o, ho⟩ := some_of_ne ha
    rw [ho]
    exact k a o ho hd' hn
  have nF : ∀ a, F a → ¬ ms j a := fun a f m => h3 j a m f
  have nFd : ∀ a, F a → a ≠ d := fun a f e => h3 i0 d md (e ▸ f)
  have lv : ∀ k a, ms k a → H a ≠ none := fun k a hk => by
    have hl := h4 k a hk
    have q := h1 k δ[k] (List.getElem?_eq_getElem hl)
    cases e : δ[k] with
    | non => rw [e] at q; exact absurd hk (q a)
    | pu x => rw [e] at q; obtain ⟨_, _, _, hM⟩ := q; exact absurd hk (hM a)
    | ow R1 => rw [e] at q; obtain ⟨u, e3, hP1, hb1⟩ := q; exact R1.live hP1 a hk
    | al _ => rw [e] at q; exact q.elim
  refine ⟨e2, by rw [List.length_set]; exact S.len, fun a ha => fb2 a (S.fb a ha) (S.fl a ha) (nF a ha), fun a ha => by rw [keep a (S.fl a ha) (nFd a ha) (nF a ha)]; exact S.fl a ha, updM ms j M', fun k s hk => ?_, fun k l a hk hl => ?_, fun k a hk => ?_, fun k a hk => ?_⟩
  · by_cases e : k = j
    · subst e
      rw [List.getElem?_set_self il] at hk
      cases hk
      rw [updM_eq rfl]
      exact ⟨v, ev, hP', fun a z => (hM' a z).2⟩
    · rw [List.getElem?_set_ne (Ne.symm e)] at hk
      rw [updM_ne e]
      have q := h1 k s hk
      cases s with
      | non => exact q
      | pu x => obtain ⟨u, e3, hdx, hM⟩ := q; exact ⟨u, e3, dp_mono e1 _ _ hdx, hM⟩
      | ow R1 =>
        obtain ⟨u, e3, hP1, hb1⟩ := q
        by_cases ek : k = i0
        · subst ek
          rw [h0] at hk
          cases hk
          rw [ev0] at e3
          cases e3
          exact ⟨_, ev0, ⟨rfl, ⟨xs', ok2, hd2⟩, hM0⟩, fun a z => by rw [(hM0 a).mp z]; exact fb2 d (hb0 d md) hdn nd⟩
        · have n1 : ∀ a, ms k a → ¬ ms j a := fun a p p' => e (h2 k j a p p')
          have n2 : ∀ a, ms k a → a ≠ d := fun a p z => ek (h2 k i0 d (z ▸ p) md)
          exact ⟨u, e3, R1.loc hP1 e1 fun a ha => keep a (R1.live hP1 a ha) (n2 a ha) (n1 a ha), fun a ha => fb2 a (hb1 a ha) (R1.live hP1 a ha) (n1 a ha)⟩
      | al _ => exact q
  · by_cases e : k = j <;> by_cases e3 : l = j
    · rw [e, e3]
    · rw [updM_eq e] at hk
      rw [updM_ne e3] at hl
      rcases (hM' a hk).1 with z | z
      · exact absurd (h2 l j a hl z) e3
      · exact absurd z (lv l a hl)
    · rw [updM_ne e] at hk
      rw [updM_eq e3] at hl
      rcases (hM' a hl).1 with z | z
      · exact absurd (h2 k j a hk z) e
      · exact absurd z (lv k a hk)
    · rw [updM_ne e] at hk
      rw [updM_ne e3] at hl
      exact h2 k l a hk hl
  · by_cases e : k = j
    · rw [updM_eq e] at hk
      intro f
      rcases (hM' a hk).1 with z | z
      · exact h3 j a z f
      · exact S.fl a f z
    · rw [updM_ne e] at hk; exact h3 k a hk
  · rw [List.length_set]
    by_cases e : k = j
    · rw [e]; exact il
    · rw [updM_ne e] at hk; exact h4 k a hk
theorem aok_dm {B H : Hp} {i0 j : Nat} {d1 d2 : List PyData} {vs : List V} {M : Addr → Prop} (h : AOk K σ δ B H vs (.al i0 :: (d1.map .pu ++ .al j :: d2.map .pu)) M) : ∃ (v0 v1 : V) (as bs : List V), vs = v0 :: (as ++ v1 :: bs) ∧ σ[i0]? = some (some v0) ∧ σ[j]? = some (some v1) ∧ DpAll K B as d1 ∧ DpAll K B bs d2 := by
  cases h with
  | cons h1 h2 h3 =>
    have key : ∀ {d1 : List PyData} {vs : List V} {M : Addr → Prop}, AOk K σ δ B H vs (d1.map .pu ++ .al j :: d2.map .pu) M → ∃ (v1 : V) (as bs : List V), vs = as ++ v1 :: bs ∧ σ[j]? = some (some v1) ∧ DpAll K B as d1 ∧ DpAll K B bs d2 := by
      intro d1
      induction d1 with
      | nil =>
        intro vs M h
        cases h with
        | cons g1 g2 g3 => exact ⟨_, [], _, rfl, g1.1, .nil, aok_pu g3⟩
      | cons x d1 ih =>
        intro vs M h
        cases h with
        | cons g1 g2 g3 =>
          obtain ⟨v1, as, bs, rfl, q1, q2, q3⟩ := ih g3
          exact ⟨v1, _ :: as, bs, rfl, q1, .cons g1.1 q2, q3⟩
    obtain ⟨v1, as, bs, rfl, q1, q2, q3⟩ := key h3
    exact ⟨_, v1, as, bs, rfl, h1.1, q1, q2, q3⟩
theorem ev_callDM {i0 j : Nat} {d : Addr} (hat : ∀ i v B H M, (R i).P v B H M → v = .ref (adr i)) (hne : i0 ≠ j) (h : EvA K tr δ fun ss δ1 => ∃ (i : I) (d1 d2 : List PyData), ss = .al i0 :: (d1.map .pu ++ .al j :: d2.map .pu) ∧ δ1[i0]? = some (.ow (RDi d)) ∧ δ1[j]? = some (.ow (R i)) ∧ d1.length = n1 ∧ d2.length = n2 ∧ pre i d1 d2 ∧ ∀ i' z, adr i' = adr i → T i d1 d2 i' z → Φ (.pu z) (δ1.set j (.ow (R i')))) : EvS K (tCall (spDM K adr R n1 n2 pre T) [] E tr) δ Φ := fun B H σ F Q S k =>
  h B H σ F _ S fun vs M ss B2 H2 δ1 e f S2' w nn ⟨i, d1, d2, es, g0, gj, e1, e2, hp, q⟩ => by
    subst es
    obtain ⟨v0, v1, as, bs, rfl, s0, s1, q1, q2⟩ := aok_dm w
    have S2 : Sd K B2 H2 σ δ1 F := S2'.less fun a z => .inl z
    obtain ⟨v, Mk, ev0, ev, hP, hb, hnd, hbd, ⟨xs, ok, hd⟩, hF, op⟩ := S2.two g0 gj hne
    obtain rfl := hat _ _ _ _ _ hP
    rw [ev0] at s0
    rw [ev] at s1
    cases s0
    cases s1
    show spDM K adr R n1 n2 pre T (_ ++ []) H2 Q E
    rw [List.append_nil]
    refine ⟨B2, d, i, Mk, xs, as, bs, d1, d2, rfl, S2.bh, hbd, hd, ok, hP, hb, hnd, q1, q2, e1, e2, hp, fun z B3 H3 i' M2 xs' x1 x2 x3 x4 x5 x6 x7 x8 x9 hz hT => ?_⟩
    have S3 := op B3 H3 (R i') M2 xs' x1 x2 x3 x4 x5 x6 x8 x9
    refine k _ (fun _ => False) (.pu z) B3 H3 _ (e.trans x1) (fun a fa => ?_) (S3.less fun a z => z.elim id False.elim) ⟨dp_flat hz, fun _ z => z⟩ (fun _ z => z.elim) (q i' z x7 hT)
    obtain ⟨o, ho⟩ := some_of_ne (S2.fl a fa)
    rw [← f a fa, ho]
    exact x3 a o ho (hF a fa).2 (hF a fa).1
/-- what the body's slots hold at its ends -/
abbrev DnDM (K : PySem.W.Frag) (adr : I → Addr) (R : I → Res) (n1 : Nat) (d : Addr) (T : I → List PyData → List PyData → I → PyData → Prop) (i : I) (d1 d2 : List PyData) : Dn := { nx := fun δ2 => δ2[0]? = some (.ow (RDi d)) ∧ ∃ i', δ2[n1 + 1]? = some (.ow (R i')) ∧ adr i' = adr i ∧ T i d1 d2 i' .none, rt := fun s δ2 => ∃ z, s = .pu z ∧ flatD z = true ∧ δ2[0]? = some (.ow (RDi d)) ∧ ∃ i', δ2[n1 + 1]? = some (.ow (R i')) ∧ adr i' = adr i ∧ T i d1 d2 i' z }
theorem body_DM (hat : ∀ i v B H M, (R i).P v B H M → v = .ref (adr i)) {N : List Str} {vs : List V} {Q : VK} (h : spDM K adr R n1 n2 pre T vs H Q E)
    (hx : ∀ d i d1 d2, d1.length = n1 → d2.length = n2 → pre i d1 d2 → ExS K t (DnDM K adr R n1 d T i d1 d2) (.ow (RDi d) :: (d1.map Slot.pu ++ .ow (R i) :: (d2.map Slot.pu ++ List.replicate (N.length - (d1.length + d2.length + 2)) Slot.non)))) : t { nx := fun _ H' => Q .non H', rt := Q } (L2.start N vs) H := by
  obtain ⟨B, d, i, M, xs, as, bs, d1, d2, rfl, eB, hbd, hd, ok, hP, hMb, hnd, h1, h2, e1, e2, hpre, q⟩ := h
  have l1 := dpa_len h1
  have l2 := dpa_len h2
  let F : Addr → Prop := fun a => H a ≠ none ∧ B a = none ∧ a ≠ d ∧ ¬ M a
  have est : L2.start N (.ref d :: (as ++ .ref (adr i) :: bs)) = some (.ref d) :: (as.map some ++ some (.ref (adr i)) :: (bs.map some ++ List.replicate (N.length - (d1.length + d2.length + 2)) none)) := by
    unfold L2.start
    rw [List.map_cons, List.map_append, List.map_cons, List.cons_append, List.append_assoc, List.cons_append, List.length_cons, List.length_append, List.length_cons, l1, l2]
    have : d1.length + (d2.length + 1) + 1 = d1.length + d2.length + 2 := by omega
    rw [this]
  have S0 : Sd K B H (L2.start N (.ref d :: (as ++ .ref (adr i) :: bs))) (.ow (RDi d) :: (d1.map Slot.pu ++ .ow (R i) :: (d2.map Slot.pu ++ List.replicate (N.length - (d1.length + d2.length + 2)) Slot.non))) F := by
    rw [est]
    refine ⟨eB, by simp [l1, l2], fun a z => z.2.1, fun a z => z.1, fun k a => (k = 0 ∧ a = d) ∨ (k = d1.length + 1 ∧ M a), fun k s hs => ?_, fun k l a z1 z2 => ?_, fun k a z f => ?_, fun k a z => ?_⟩
    · cases k with
      | zero =>
        cases hs
        exact ⟨.ref d, rfl, ⟨rfl, ⟨xs, ok, hd⟩, fun a => ⟨fun z => z.elim (fun z => z.2) (fun z => absurd z.1 (by omega)), fun z => .inl ⟨rfl, z⟩⟩⟩, fun a z => z.elim (fun z => by rw [z.2]; exact hbd) (fun z => absurd z.1 (by omega))⟩
      | succ k =>
        rw [List.getElem?_cons_succ] at hs ⊢
        by_cases c1 : k < d1.length
        · rw [List.getElem?_append_left (by rw [List.length_map]; exact c1), List.getElem?_map] at hs
          cases hk : d1[k]? with
          | none => rw [hk] at hs; cases hs
          | some x =>
            rw [hk] at hs
            cases hs
            obtain ⟨v, hv, hxx⟩ := dpa_get h1 hk
            rw [List.getElem?_append_left (by rw [List.length_map, l1]; exact c1), List.getElem?_map, hv]
            exact ⟨v, rfl, hxx, fun a z => z.elim (fun z => absurd z.1 (by omega)) (fun z => absurd z.1 (by omega))⟩
        · rw [List.getElem?_append_right (by rw [List.length_map]; omega), List.length_map] at hs
          rw [List.getElem?_append_right (by rw [List.length_map, l1]; omega), List.length_map, l1]
          cases hk : k - d1.length with
          | zero =>
            rw [hk] at hs
            cases hs
            have eM : (fun a => (k + 1 = 0 ∧ a = d) ∨ (k + 1 = d1.length + 1 ∧ M a)) = M := funext fun a => propext ⟨fun z => z.elim (fun z => absurd z.1 (by omega)) fun z => z.2, fun z => .inr ⟨by omega, z⟩⟩
            show SlotIn K B H (some (some (.ref (adr i)))) (fun a => (k + 1 = 0 ∧ a = d) ∨ (k + 1 = d1.length + 1 ∧ M a)) (.ow (R i))
            rw [eM]
            exact ⟨_, rfl, hP, hMb⟩
          | succ m =>
            rw [hk, List.getElem?_cons_succ] at hs
            rw [List.getElem?_cons_succ]
            by_cases c2 : m < d2.length
            · rw [List.getElem?_append_left (by rw [List.length_map]; exact c2), List.getElem?_map] at hs
              cases hk2 : d2[m]? with
              | none => rw [hk2] at hs; cases hs
              | some x =>
                rw [hk2] at hs
                cases hs
                obtain ⟨v, hv, hxx⟩ := dpa_get h2 hk2
                rw [List.getElem?_append_left (by rw [List.length_map, l2]; exact c2), List.getElem?_map, hv]
                exact ⟨v, rfl, hxx, fun a z => z.elim (fun z => absurd z.1 (by omega)) (fun z => absurd z.1 (by omega))⟩
            · rw [List.getElem?_append_right (by rw [List.length_map]; omega)] at hs
              rw [List.eq_of_mem_replicate (List.mem_of_getElem? hs)]
              exact fun a z => z.elim (fun z => absurd z.1 (by omega)) (fun z => absurd z.1 (by omega))
    · rcases z1 with ⟨y1, y2⟩ | ⟨y1, y2⟩ <;> rcases z2 with ⟨y3, y4⟩ | ⟨y3, y4⟩
      · rw [y1, y3]
      · exact absurd (y2 ▸ y4) hnd
      · exact absurd (y4 ▸ y2) hnd
      · rw [y1, y3]
    · rcases z with ⟨_, y⟩ | ⟨_, y⟩
      · exact f.2.2.1 y
      · exact f.2.2.2 y
    · rcases z with ⟨y, _⟩ | ⟨y, _⟩
      · rw [y]; exact Nat.zero_lt_succ _
      · rw [y]; simp
  have fin : ∀ (B2 H2 : Hp) (σ2 : L2.St) (δ2 : List Slot) (F' : Addr → Prop) (i' : I) (z : PyData), Ex B B2 → (∀ a, F a → H2 a = H a) → Sd K B2 H2 σ2 δ2 F' → (∀ a, F a → F' a) → δ2[0]? = some (.ow (RDi d)) → δ2[n1 + 1]? = some (.ow (R i')) → adr i' = adr i → flatD z = true → T i d1 d2 i' z → Q (valD z) H2 := fun B2 H2 σ2 δ2 F' i' z e f S hF' g0 gj ea hz hT => by
    obtain ⟨v, M2, ev0, ev, hP2, hb2, hnd2, hbd2, ⟨xs', ok', hd'⟩, hF2, _⟩ := S.two g0 gj (by omega)
    obtain rfl := hat _ _ _ _ _ hP2
    rw [ea] at hP2
    refine q z B2 H2 i' M2 xs' e S.bh (fun a o ho hd' hm => ?_) (fun a o ho => ?_) hd' ok' ea hP2 (fun a ha => ⟨?_, hb2 a ha⟩) hz hT
    · cases hba : B a with
      | none => rw [f a ⟨nn_of ho, hba, hd', hm⟩]; exact ho
      | some o' =>
        have e3 := eB a o' hba
        rw [ho] at e3
        cases e3
        exact S.bh a o (e a o hba)
    · cases hba : B a with
      | some o' => exact .inl (by rw [e a o' hba] at ho; exact ho)
      | none =>
        cases hh : H a with
        | none => exact .inr (.inl rfl)
        | some y =>
          refine .inr (.inr (Classical.byContradiction fun hm => ?_))
          by_cases ed : a = d
          · rw [ed, hbd2] at ho; cases ho
          · rw [S.fb a (hF' a ⟨nn_of hh, hba, ed, hm⟩)] at ho
            cases ho
    · cases hh : H a with
      | none => exact .inr rfl
      | some y =>
        refine .inl (Classical.byContradiction fun hm => ?_)
        have ed : a ≠ d := fun z => hnd2 (z ▸ ha)
        exact (hF2 a (hF' a ⟨nn_of hh, exnone e (hb2 a ha), ed, hm⟩)).1 ha
  refine hx d i d1 d2 e1 e2 hpre B H _ F _ S0 ⟨fun B2 H2 σ2 δ2 e f S ⟨g0, i', gj, ea, hT⟩ => fin B2 H2 σ2 δ2 F i' .none e f S (fun _ z => z) g0 gj ea rfl hT, fun _ _ _ _ _ _ _ z => z.elim, fun _ _ _ _ _ _ _ z => z.elim, fun v Mv s B2 H2 σ2 δ2 e f S w nF ⟨z, es, hz, g0, i', gj, ea, hT⟩ => ?_, fun _ _ _ _ _ _ _ _ _ _ _ z => False.elim z⟩
  subst es
  rw [flat_val hz w.1]
  exact fin B2 H2 σ2 δ2 _ i' z e f S (fun _ z => .inl z) g0 gj ea hz hT
theorem calDM {P : Program} {mg : Str → Option Value} {base : Heap} {x : Str} {st : Stmt} {N ps : List Str} {k : Nat} (hat : ∀ i v B H M, (R i).P v B H M → v = .ref (adr i)) (D : Df K mg x st ps) (S : FnScope N ps (defScope st)) (hn : ps.length = n1 + n2 + 2)
    (hbody : ∀ (f : Addr) (cdv : Value) (A : Around) (outer : List Env) (s : Shared) (H : Hp) (E : XK), Room k (A.deeper (envOfC x (defScope st) s.heap.objs.size f cdv)) →
      ∃ t, PSs (cxOf CX0 P w K mg base N x (defScope st) f cdv A outer s H E).nox (defBody st) t ∧ ∀ d i d1 d2, d1.length = n1 → d2.length = n2 → pre i d1 d2 → ExS K t (DnDM K adr R n1 d T i d1 d2) (.ow (RDi d) :: (d1.map Slot.pu ++ .ow (R i) :: (d2.map Slot.pu ++ List.replicate (N.length - (d1.length + d2.length + 2)) Slot.non)))) : Cal P w K mg base (k + 1) x (spDM K adr R n1 n2 pre T) := by
  obtain ⟨f, fd, F, hm, hb⟩ := D.ex
  refine ⟨f, fd, ps, F.ok S (fun vs H Q E h => by rw [spDM_len h, hn]) (fun cdv A outer s H vs Q E hr h => ?_), hm, F.kp, hb⟩
  obtain ⟨t, ht, hx⟩ := hbody f cdv A outer s H E hr
  exact ⟨t, ht, body_DM hat h hx⟩
end
end Dl

/-! Rk7: d.update(a list of pairs). -/
namespace Rk
open PySem PySem.Spec PyProof.Rows L2
def rUpdP (K : PySem.W.Frag) : V → List V → Hp → VK → Prop := fun x vs H Q => ∃ (d a : Addr) (ps : List Addr) (acc kvs : List (Key × V)), x = .ref d ∧ vs = [.ref a] ∧ H d = some (.dK acc) ∧ SqL K H a (ps.map V.ref) ∧ Paired (fun p kv => SqT K H p [kV kv.1, kv.2]) ps kvs ∧ acc.length + ps.length ≤ sizeLine ∧ d ≠ a ∧ d ∉ ps ∧ Q .non (upd H d (.dK (mergeK acc kvs)))
theorem pairs_at {X : Cx} {pins : List (Addr × Obj)} {σ : L2.St} {H : Hp} {s : Shared} (I : Inv X pins σ H s) : ∀ {ps : List Addr} {kvs : List (Key × V)}, Paired (fun p kv => SqT X.K H p [kV kv.1, kv.2]) ps kvs →
    ∃ (prs : List (Key × Value)) (us : List (Value × Value)), KV kvs prs ∧ prs.length = ps.length ∧ us.length = ps.length ∧ ∀ (j : Nat) (u y : Value), us[j]? = some (u, y) → ∃ b k, ps[j]? = some b ∧ prs[j]? = some (k, y) ∧ IsTup s.heap b #[u, y] ∧ keyIs k u = true
  | _, _, .nil => ⟨[], [], .nil, rfl, rfl, fun j u y e => by simp at e⟩
  | _, _, .cons (a := p) (b := kv) h t => by
    obtain ⟨prs, us, r, hl, hu, hp⟩ := pairs_at I t
    obtain ⟨its, rv, ht, _⟩ := I.tuple h
    obtain ⟨u, y, ei, ru, ry⟩ := vals2 rv
    subst ei
    refine ⟨(kv.1, y) :: prs, (u, y) :: us, .cons ⟨rfl, ry⟩ r, by rw [List.length_cons, List.length_cons, hl], by rw [List.length_cons, List.length_cons, hu], fun j u' y' e => ?_⟩
    cases j with
    | zero =>
      cases (show (u, y) = (u', y') from Option.some.inj e)
      exact ⟨p, kv.1, rfl, rfl, ht, kV_is (P := X.prog) (w := X.w) ru⟩
    | succ j =>
      obtain ⟨b, k, e1, e2, e3, e4⟩ := hp j u' y' (by simpa using e)
      exact ⟨b, k, by simpa using e1, by simpa using e2, e3, e4⟩
theorem mt_updP {X : Cx} (hcalm : X.calm = true) : MtM X "dict.update" (rUpdP X.K) := by
  intro pins s σ H x vs v us Q I rx rv h
  obtain ⟨d, a, ps, acc, kvs, rfl, rfl, hH, hB, hP, hz, hda, hdp, q⟩ := h
  cases rx
  obtain ⟨u, rfl, ru⟩ := rv.one
  cases ru
  obtain ⟨its, rv2, pl, hz2⟩ := I.list hB
  have ei := refs_at rv2
  subst ei
  obtain ⟨z, hd, as, rel, dd⟩ := dk_of I.hok hH
  obtain ⟨prs, us, rel2, hl, hul, hpr⟩ := pairs_at I hP
  obtain ⟨o, n, ho, hc, hdn, hdat⟩ := pl
  have hlen : (mergeK acc kvs).length ≤ sizeLine := by
    have := length_mergeK kvs acc
    have := rel2.length
    omega
  refine call_update_pairs (knd := mixKind X.prog X.w) (acc := as) (kvs := prs) (PairArg.list a (ps.map Value.ref).toArray (fun j => ps.getD j 0) us) (I.ok.hd hcalm) ⟨⟨o, n, ho, hc, hdn, hdat⟩, by simp [hul], fun j k v e => ?_⟩ ?_ ⟨by omega, fun i key v e => ?_⟩ dd (by rw [← rel.length, hul]; exact hz) fun h' tk hd' hk => ?_
  · obtain ⟨b, k', e1, e2, e3, e4⟩ := hpr j k v e
    refine ⟨by simp [e1], ?_⟩
    show PairAt s.heap (ps.getD j 0) k v
    rw [List.getD_eq_getElem?_getD, e1]
    exact .inl (by obtain ⟨o2, h1, h2, h3, h4⟩ := e3; exact ⟨o2, h1, h2, h3, h4⟩)
  · intro hm
    rcases List.mem_cons.mp hm with e | hm
    · exact hda e
    · obtain ⟨j, hj, e⟩ := List.mem_map.mp hm
      have hj := List.mem_range.mp hj
      rw [hul] at hj
      have e : ps.getD j 0 = d := e
      rw [List.getD_eq_getElem?_getD, List.getElem?_eq_getElem hj] at e
      exact hdp (e ▸ List.getElem_mem hj)
  · obtain ⟨b, k', e1, e2, e3, e4⟩ := hpr i key v e
    exact ⟨k', e2, e4⟩
  · refine ⟨.non, _, I.write (x := d) (e := d) (o := .dK (mergeK acc kvs)) (t' := tk) (by rw [hH]; exact True.intro) (.inl rfl) (fun b q hb z => hk b q hb (fun m => nomatch m) z) (let ⟨q, _, _, hq, _⟩ := hd'; ⟨q, hq⟩) (dk_new hlen hd (rel2.merge rel) hd'), rfl, q⟩
end Rk

/-! Dl24: dicts with text keys that own lists: their entries, stores into their lists. -/
namespace Dl
open PySem PySem.Spec PyProof.Rows L2
open Evl (Ex)
/-- the dict at a has data d at its key f -/
def KeyD (K : PySem.W.Frag) (R : Res) (a : Addr) (f : Str) (d : PyData) : Prop := ∀ v B H M, R.P v B H M → ∃ kvs u, H a = some (.dK kvs) ∧ valV kvs (.inr f) = some u ∧ Dp K B u d
def KeyR (R : Res) (a : Addr) (f : Str) (b : Addr) : Prop := ∀ v B H M, R.P v B H M → ∃ kvs, H a = some (.dK kvs) ∧ valV kvs (.inr f) = some (.ref b)
def KeyPut (K : PySem.W.Frag) (R R' : Res) (a : Addr) (f : Str) (d : PyData) : Prop := ∀ v B H M y, R.P v B H M → Dp K B y d → ∃ kvs, H a = some (.dK kvs) ∧ M a ∧ kvs.length < sizeLine ∧ R'.P v B (upd H a (.dK (putK kvs (.inr f) y))) M
/-- to put d at the place k of the list at b makes R' of R -/
def ItemPut (K : PySem.W.Frag) (R R' : Res) (b : Addr) (n k : Nat) (d : PyData) : Prop := ∀ v B H M y, R.P v B H M → Dp K B y d → ∃ xs, H b = some (.lst xs) ∧ M b ∧ xs.length = n ∧ R'.P v B (upd H b (.lst (xs.set k y))) M
section
variable {K : PySem.W.Frag} {w : World} {δ : List Slot} {te ta tb tc : TE} {tr : TA} {tt : TT} {t u : TS} {d : Dn} {Φ : Slot → List Slot → Prop} {B H : Hp} {σ : L2.St} {F F' M : Addr → Prop}
theorem ev_keyD {f : Str} (h : EvS K ta δ fun s δ1 => ∃ i R a d, At δ1 s i R a ∧ KeyD K R a f d ∧ Φ (.pu d) δ1) : EvS K (tDGet ta (tC (.str f))) δ Φ := fun B H σ F Q S k =>
  h B H σ F _ S fun v M s B2 H2 δ1 e fr S2 wk n ⟨i, R, a, d, ha, hf, q⟩ => by
    obtain ⟨rfl, v', M', ev, hP⟩ := at_ref S2 wk ha
    obtain ⟨kvs, u, h1, h2, h3⟩ := hf _ _ _ _ hP
    have g := DGet.k (k := .inr f) h1
    rw [h2] at g
    exact ⟨a, u, rfl, g, k u (fun _ => False) (.pu d) B2 H2 δ1 e (fun a z => fr a z) ((S2.less fun a z => .inl z).less fun a z => z.elim id False.elim) ⟨h3, fun _ z => z⟩ (fun _ z => z.elim) q⟩
theorem ev_keyR {f : Str} (h : EvS K ta δ fun s δ1 => ∃ i R a b, At δ1 s i R a ∧ KeyR R a f b ∧ Φ (.ow (RRef b)) δ1) : EvS K (tDGet ta (tC (.str f))) δ Φ := fun B H σ F Q S k =>
  h B H σ F _ S fun v M s B2 H2 δ1 e fr S2 wk n ⟨i, R, a, b, ha, hf, q⟩ => by
    obtain ⟨rfl, v', M', ev, hP⟩ := at_ref S2 wk ha
    obtain ⟨kvs, h1, h2⟩ := hf _ _ _ _ hP
    have g := DGet.k (k := .inr f) h1
    rw [h2] at g
    exact ⟨a, _, rfl, g, k (.ref b) (fun _ => False) (.ow (RRef b)) B2 H2 δ1 e (fun a z => fr a z) ((S2.less fun a z => .inl z).less fun a z => z.elim id False.elim) ⟨rfl, fun _ z => z⟩ (fun _ z => z.elim) q⟩
/-- k["f"] = e -/
theorem xs_keyPut {f : Str} (h : EvD K tb δ fun x δ1 => EvS K ta δ1 fun s δ2 => ∃ (i : Nat) (R R' : Res) (a : Addr), At δ2 s i R a ∧ KeyPut K R R' a f x ∧ d.nx (δ2.set i (.ow R'))) : ExS K (sDPut ta (tC (.str f)) tb) d δ := fun B H σ F D S L =>
  h B H σ F _ S fun v x B1 H1 δ1 e1 f1 S1 hd p => p B1 H1 σ F _ S1 fun u M s B2 H2 δ2 e2 f2 S2 wk n ⟨i, R, R', a, ha, hp, q⟩ => by
    obtain ⟨rfl, _⟩ := at_ref S2 wk ha
    have S2' : Sd K B2 H2 σ δ2 F := S2.less fun c z => .inl z
    obtain ⟨v', M', ev, hP, put⟩ := S2'.putR ha.1
    obtain ⟨kvs, g1, g2, g3, g4⟩ := hp _ _ _ _ v hP (dp_mono e2 _ _ hd)
    obtain ⟨S3, f3⟩ := put a _ R' g2 g4
    exact ⟨a, _, rfl, DPut.k (k := .inr f) g1 g3, L.nx B2 _ σ _ (e1.trans e2) (fun c z => (f3 c z).trans ((f2 c z).trans (f1 c z))) S3 q⟩
/-- xs[i] = e, xs a list inside -/
theorem xs_itemPut (h : EvD K te δ fun x δ1 => EvS K ta δ1 fun s δ2 => ∃ b, s = .ow (RRef b) ∧ EvS K tb δ2 fun s2 δ3 => ∃ (i : Nat) (R R' : Res) (n k : Nat), s2 = .pu (.int (k : Int)) ∧ k < n ∧ δ3[i]? = some (.ow R) ∧ ItemPut K R R' b n k x ∧ d.nx (δ3.set i (.ow R'))) : ExS K (tAsg te (gSub ta tb rSetL)) d δ := fun B H σ F D S L =>
  h B H σ F _ S fun v x B1 H1 δ1 e1 f1 S1 hd p => p B1 H1 σ F _ S1 fun u M s B2 H2 δ2 e2 f2 S2 wk n ⟨b, es, p2⟩ => by
    subst es
    obtain ⟨rfl, hM⟩ := wk
    refine p2 B2 H2 σ F _ (S2.less fun c z => .inl z) fun u3 M3 s3 B3 H3 δ3 e3 f3 S3 wk3 n3 ⟨i, R, R', m, k, es3, hk, hi, hp, q⟩ => ?_
    subst es3
    have S3' : Sd K B3 H3 σ δ3 F := S3.less fun c z => .inl z
    obtain ⟨v', M', ev, hP, put⟩ := S3'.putR hi
    obtain ⟨xs, g1, g2, g3, g4⟩ := hp _ _ _ _ v hP (dp_mono (e2.trans e3) _ _ hd)
    obtain ⟨S4, f4⟩ := put b _ R' g2 g4
    have hix : ixN xs.length (k : Int) = some k := by rw [g3]; exact ixN_nat hk
    exact ⟨b, xs, _, k, rfl, dp_int_inv wk3.1, g1, hix, L.nx B3 _ σ _ ((e1.trans e2).trans e3) (fun c z => (f4 c z).trans ((f3 c z).trans ((f2 c z).trans (f1 c z)))) S4 q⟩
end
section
variable {K : PySem.W.Frag} {root a b : Addr} {cs : Cells} {cs' : Cell → Cells} {fs : List (Str × CV)} {f : Str} {x : PyData} {xs : List CV}
theorem key_d (hm : (a, Cell.dct fs) ∈ cs) (hf : fs.lookup f = some (.d x)) : KeyD K (RH K root cs) a f x := fun v B H M h => by
  obtain ⟨⟨ys, e1, e2⟩, _⟩ := RH.get h hm
  obtain ⟨u, e3, e4⟩ := tsa_some e2 hf
  exact ⟨ys, u, e1, e3, e4⟩
theorem key_r (hm : (a, Cell.dct fs) ∈ cs) (hf : fs.lookup f = some (.r b)) : KeyR (RH K root cs) a f b := fun v B H M h => by
  obtain ⟨⟨ys, e1, e2⟩, _⟩ := RH.get h hm
  obtain ⟨u, e3, e4⟩ := tsa_some e2 hf
  exact ⟨ys, e1, by rw [e3, show u = .ref b from e4]⟩
theorem keyput_d (hh : Has cs a (.dct fs) cs') (hl : fs.length < 100000) : KeyPut K (RH K root cs) (RH K root (cs' (.dct (putT fs f (.d x))))) a f x := fun v B H M y h hy => by
  obtain ⟨⟨ys, e1, e2⟩, hM⟩ := RH.get h hh.mem
  exact ⟨ys, e1, hM, Evl.sz_lt (by rw [tsa_len e2]; exact hl), RH.put h hh ⟨_, rfl, tsa_put (c := .d x) hy e2⟩⟩
theorem itemput {k : Nat} (hh : Has cs b (.lst xs) cs') : ItemPut K (RH K root cs) (RH K root (cs' (.lst (xs.set k (.d x))))) b xs.length k x := fun v B H M y h hy => by
  obtain ⟨⟨ys, e1, e2⟩, hM⟩ := RH.get h hh.mem
  exact ⟨ys, e1, hM, cva_len e2, RH.put h hh ⟨_, rfl, cva_set (c := .d x) hy k e2⟩⟩
end
end Dl

/-! Dl25: defs that tell a new thing that is owned; displays of dicts that own lists; update of such a dict. -/
namespace Dl
open PySem PySem.Spec PyProof.Rows L2
open Evl (Ex)
/-- data in, anything new out -/
def spN (K : PySem.W.Frag) (n : Nat) (pre : List PyData → Prop) (T : List PyData → Slot → Prop) : Sp := fun vs H Q _ =>
  ∃ B ds, Ex B H ∧ DpAll K B vs ds ∧ ds.length = n ∧ pre ds ∧ ∀ v B2 H2 s M, Gr B H B2 H2 → VOk K [] [] B2 H2 v M s → (∀ a, M a → H a = none ∧ B2 a = none) → T ds s → Q v H2
theorem spN_len {K : PySem.W.Frag} {n : Nat} {pre : List PyData → Prop} {T : List PyData → Slot → Prop} {vs : List V} {H : Hp} {Q : VK} {E : XK} (h : spN K n pre T vs H Q E) : vs.length = n := by
  obtain ⟨B, ds, _, ha, hn, _⟩ := h
  rw [dpa_len ha, hn]
section
variable {K : PySem.W.Frag} {w : World} {δ : List Slot} {te ta tb tc : TE} {tr : TA} {tt : TT} {t u : TS} {d : Dn} {Φ : Slot → List Slot → Prop} {n : Nat} {pre : List PyData → Prop} {T : List PyData → Slot → Prop} {E : XK}
theorem sd_freshM {B H B3 H3 : Hp} {σ : L2.St} {F M : Addr → Prop} (S : Sd K B H σ δ F) (g : Gr B H B3 H3) (hp : ∀ a, M a → H a = none) (hb : ∀ a, M a → B3 a = none) (h3 : ∀ a, M a → H3 a ≠ none) : Sd K B3 H3 σ δ fun a => F a ∨ M a := by
  have S2 := S.grow g
  obtain ⟨ms, h1, h2, h3', h4⟩ := S.sl
  refine ⟨S2.bh, S2.len, fun a ha => ha.elim (S2.fb a) (hb a), fun a ha => ha.elim (S2.fl a) (h3 a), ms, fun i s hs => (h1 i s hs).grow g, h2, fun i a q z => ?_, h4⟩
  rcases z with z | z
  · exact h3' i a q z
  · have hl := h4 i a q
    have q2 := h1 i δ[i] (List.getElem?_eq_getElem hl)
    cases e : δ[i] with
    | non => rw [e] at q2; exact q2 a q
    | pu d => rw [e] at q2; obtain ⟨_, _, _, z⟩ := q2; exact z a q
    | ow R => rw [e] at q2; obtain ⟨_, _, hP, _⟩ := q2; exact R.live hP a q (hp a z)
    | al j => rw [e] at q2; exact q2
theorem ev_callN (h : EvDs K tr δ fun ds δ1 => ds.length = n ∧ pre ds ∧ ∀ s, T ds s → Φ s δ1) : EvS K (tCall (spN K n pre T) [] E tr) δ Φ := fun B H σ F Q S k =>
  h B H σ F _ S fun vs ds B2 H2 δ1 e f S2 ha ⟨hn, hp, q⟩ => by
    show spN K n pre T (vs ++ []) H2 Q E
    rw [List.append_nil]
    refine ⟨B2, ds, S2.bh, ha, hn, hp, fun v B3 H3 s M g hw hM hT => ?_⟩
    exact k v M s B3 H3 δ1 (e.trans g.b) (fun a z => (ex_eq g.h (S2.fl a z)).trans (f a z)) (sd_freshM S2 g (fun a z => (hM a z).1) (fun a z => (hM a z).2) (fun a z => hw.lives a z)) hw.any (fun a z z2 => S2.fl a z2 (hM a z).1) (q s hT)
def RtN (T : Slot → Prop) (s : Slot) (δ : List Slot) : Prop := (∃ z, s = .pu z ∧ T s) ∨ (∃ R, s = .ow R ∧ T s) ∨ ∃ k R, s = .al k ∧ δ[k]? = some (.ow R) ∧ T (.ow R)
theorem body_N {N : List Str} {vs : List V} {H : Hp} {Q : VK} (h : spN K n pre T vs H Q E)
    (hx : ∀ ds, ds.length = n → pre ds → ExS K t { nx := fun _ => T ds (.pu .none), rt := RtN (T ds) } (ds.map Slot.pu ++ List.replicate (N.length - ds.length) Slot.non)) : t { nx := fun _ H' => Q .non H', rt := Q } (L2.start N vs) H := by
  obtain ⟨B, ds, eB, ha, hn, hp, q⟩ := h
  refine hx ds hn hp B H (L2.start N vs) (FrB B H) _ (sd_start eB ha) ⟨fun B2 H2 σ2 δ2 e f S p => q .non B2 H2 (.pu .none) (fun _ => False) (gr_end eB e f S) ⟨.non, fun _ z => z⟩ (fun _ z => z.elim) p, fun _ _ _ _ _ _ _ z => z.elim, fun _ _ _ _ _ _ _ z => z.elim, fun v M s B2 H2 σ2 δ2 e f S w nF p => ?_, fun _ _ _ _ _ _ _ _ _ _ _ z => False.elim z⟩
  have S' : Sd K B2 H2 σ2 δ2 (FrB B H) := S.less fun a z => .inl z
  have g := gr_end eB e f S'
  have new : ∀ a, B2 a = none → ¬ FrB B H a → H a = none := fun a hb nf => by
    cases hh : H a with
    | none => rfl
    | some u => exact absurd ⟨nn_of hh, exnone e hb⟩ nf
  rcases p with ⟨z, rfl, hT⟩ | ⟨R, rfl, hT⟩ | ⟨k, R, rfl, hk, hT⟩
  · exact q v B2 H2 (.pu z) (fun _ => False) g ⟨w.1, fun _ z => z⟩ (fun _ z => z.elim) hT
  · exact q v B2 H2 (.ow R) M g w (fun a z => ⟨new a (S.fb a (.inr z)) (nF a z), S.fb a (.inr z)⟩) hT
  · obtain ⟨v', M', ev, hP, hb, hF, _⟩ := S'.opn hk
    rw [w.1] at ev
    cases ev
    exact q v B2 H2 (.ow R) M' g hP (fun a z => ⟨new a (hb a z) (hF a z), hb a z⟩) hT
theorem calN {P : Program} {mg : Str → Option Value} {base : Heap} {x : Str} {st : Stmt} {N ps : List Str} {k : Nat} (D : Df K mg x st ps) (S : FnScope N ps (defScope st)) (hn : ps.length = n)
    (hbody : ∀ (f : Addr) (cdv : Value) (A : Around) (outer : List Env) (s : Shared) (H : Hp) (E : XK), Room k (A.deeper (envOfC x (defScope st) s.heap.objs.size f cdv)) →
      ∃ t, PSs (cxOf CX0 P w K mg base N x (defScope st) f cdv A outer s H E).nox (defBody st) t ∧ ∀ ds, ds.length = n → pre ds → ExS K t { nx := fun _ => T ds (.pu .none), rt := RtN (T ds) } (ds.map Slot.pu ++ List.replicate (N.length - ds.length) Slot.non)) : Cal P w K mg base (k + 1) x (spN K n pre T) := by
  obtain ⟨f, fd, F, hm, hb⟩ := D.ex
  refine ⟨f, fd, ps, F.ok S (fun vs H Q E h => by rw [spN_len h, hn]) (fun cdv A outer s H vs Q E hr h => ?_), hm, F.kp, hb⟩
  obtain ⟨t, ht, hx⟩ := hbody f cdv A outer s H E hr
  exact ⟨t, ht, body_N h hx⟩
end
/-! ### displays of dicts that own lists -/
abbrev Ent := Str × (PyData ⊕ List PyData)
inductive PAll (K : PySem.W.Frag) (B H : Hp) : List (Str × V) → List Ent → (Addr → Prop) → Prop
  | nil : PAll K B H [] [] (fun _ => False)
  | d {f : Str} {v : V} {x : PyData} {xs : List (Str × V)} {es : List Ent} {M : Addr → Prop} : Dp K B v x → PAll K B H xs es M → PAll K B H ((f, v) :: xs) ((f, .inl x) :: es) M
  | l {f : Str} {p : Addr} {ys : List V} {ds : List PyData} {xs : List (Str × V)} {es : List Ent} {M : Addr → Prop} : H p = some (.lst ys) → DpAll K B ys ds → ¬ M p → PAll K B H xs es M → PAll K B H ((f, .ref p) :: xs) ((f, .inr ds) :: es) (fun a => a = p ∨ M a)
def entF : List Ent → List Addr → List (Str × CV)
  | [], _ => []
  | (f, .inl x) :: r, as => (f, .d x) :: entF r as
  | (f, .inr _) :: r, a :: as => (f, .r a) :: entF r as
  | (_, .inr _) :: _, [] => []
def entC : List Ent → List Addr → Cells
  | [], _ => []
  | (_, .inl _) :: r, as => entC r as
  | (_, .inr ds) :: r, a :: as => (a, .lst (ds.map .d)) :: entC r as
  | (_, .inr _) :: _, [] => []
def entN : List Ent → Nat
  | [] => 0
  | (_, .inl _) :: r => entN r
  | (_, .inr _) :: r => entN r + 1
section
variable {K : PySem.W.Frag} {w : World} {δ : List Slot} {te ta tb tc : TE} {tr : TA} {tt : TT} {t u : TS} {d : Dn} {Φ : Slot → List Slot → Prop} {B H B2 H2 : Hp}
theorem pall_step (e : Ex B B2) : ∀ {xs : List (Str × V)} {es : List Ent} {M : Addr → Prop}, PAll K B H xs es M → (∀ a, M a → H2 a = H a) → PAll K B2 H2 xs es M
  | _, _, _, .nil, _ => .nil
  | _, _, _, .d h t, k => .d (dp_mono e _ _ h) (pall_step e t k)
  | _, _, _, .l h1 h2 h3 t, k => .l (by rw [k _ (.inl rfl)]; exact h1) (dpa_mono e _ _ h2) h3 (pall_step e t fun a z => k a (.inr z))
theorem pall_cells : ∀ {xs : List (Str × V)} {es : List Ent} {M : Addr → Prop}, PAll K B H xs es M → ∃ as : List Addr, as.length = entN es ∧ TsAll K B (xs.map fun kv => (.inr kv.1, kv.2)) (entF es as) ∧ (∀ y ∈ entC es as, CellAt K B (H y.1) y.2) ∧ ((entC es as).map (·.1)).Nodup ∧ ∀ a, M a ↔ a ∈ (entC es as).map (·.1)
  | _, _, _, .nil => ⟨[], rfl, .nil, (fun _ h => nomatch h), List.nodup_nil, fun a => ⟨fun z => z.elim, fun z => nomatch z⟩⟩
  | _, _, _, .d h t => by
    obtain ⟨as, h1, h2, h3, h4, h5⟩ := pall_cells t
    exact ⟨as, h1, .cons h h2, h3, h4, h5⟩
  | _, _, _, @PAll.l _ _ _ f p ys ds xs es M g1 g2 g3 t => by
    obtain ⟨as, h1, h2, h3, h4, h5⟩ := pall_cells t
    refine ⟨p :: as, by show as.length + 1 = _; rw [h1]; rfl, .cons rfl h2, fun y hy => ?_, ?_, fun a => ?_⟩
    · rcases List.mem_cons.mp hy with rfl | hy
      · exact ⟨ys, g1, cva_data g2⟩
      · exact h3 y hy
    · show (p :: (entC es as).map (·.1)).Nodup
      exact List.nodup_cons.mpr ⟨fun z => g3 ((h5 p).mpr z), h4⟩
    · show _ ↔ a ∈ p :: (entC es as).map (·.1)
      rw [List.mem_cons, ← h5 a]
theorem pall_len : ∀ {xs : List (Str × V)} {es : List Ent} {M : Addr → Prop}, PAll K B H xs es M → xs.map (·.1) = es.map (·.1)
  | _, _, _, .nil => rfl
  | _, _, _, .d h t => by rw [List.map_cons, List.map_cons, pall_len t]
  | _, _, _, .l h1 h2 h3 t => by rw [List.map_cons, List.map_cons, pall_len t]
theorem tsa_keys : ∀ {xs : List (Key × V)} {fs : List (Str × CV)}, TsAll K B xs fs → xs.map (·.1) = fs.map (fun y => (.inr y.1 : Key))
  | _, _, .nil => rfl
  | _, _, .cons _ t => by rw [List.map_cons, List.map_cons, tsa_keys t]
theorem merge_new : ∀ (more acc : List (Key × V)), ((acc ++ more).map (·.1)).Nodup → mergeK acc more = acc ++ more
  | [], acc, _ => (List.append_nil acc).symm
  | (k, v) :: r, acc, h => by
    have hn : valV acc k = none := by
      cases q : valV acc k with
      | none => rfl
      | some u =>
        have hk : (acc.any fun kv => decide (kv.1 = k)) = true := by rw [valV_any, q]; rfl
        obtain ⟨x, hx, e⟩ := List.any_eq_true.mp hk
        rw [List.map_append, List.map_cons] at h
        exact absurd (of_decide_eq_true e) fun e => (List.nodup_append.mp h).2.2 x.1 (List.mem_map.mpr ⟨x, hx, rfl⟩) k (List.mem_cons_self ..) e
    show mergeK (putK acc k v) r = _
    rw [putK_new v hn, merge_new r (acc ++ [(k, v)]) (by rw [List.append_assoc]; exact h), List.append_assoc]
    rfl
/-- pairs of a display: text keys, data or new lists -/
def EvPq (K : PySem.W.Frag) (trs : List (TE × TE)) (δ : List Slot) (Φ : List Ent → List Slot → Prop) : Prop :=
  ∀ (B H : Hp) (σ : L2.St) (F : Addr → Prop) (Q : List (V × V) → Hp → Prop), Sd K B H σ δ F →
    (∀ xs es M B2 H2 δ2, Ex B B2 → (∀ a, F a → H2 a = H a) → Sd K B2 H2 σ δ2 (fun a => F a ∨ M a) → PAll K B2 H2 xs es M → (∀ a, M a → ¬ F a) → Φ es δ2 → Q (xs.map fun kv => (.str kv.1, kv.2)) H2) → tPairs trs σ H Q
theorem eq_nil {Φ : List Ent → List Slot → Prop} (h : Φ [] δ) : EvPq K [] δ Φ := fun B H σ F Q S k => k [] [] (fun _ => False) B H δ (Ex.refl _) (fun _ _ => rfl) (S.less fun a z => z.elim id False.elim) .nil (fun _ z => z.elim) h
theorem eq_cons {f : Str} {trs : List (TE × TE)} {Φ : List Ent → List Slot → Prop} (h : EvS K tb δ fun s δ1 => (∃ x, s = .pu x ∧ EvPq K trs δ1 fun es δ2 => Φ ((f, .inl x) :: es) δ2) ∨ ∃ ds, s = .ow (RL K ds) ∧ EvPq K trs δ1 fun es δ2 => Φ ((f, .inr ds) :: es) δ2) : EvPq K ((tC (.str f), tb) :: trs) δ Φ := fun B H σ F Q S kk =>
  h B H σ F _ S fun v M s B1 H1 δ1 e1 f1 S1 w1 n1 p => by
    rcases p with ⟨x, es, p⟩ | ⟨ds, es, p⟩
    · subst es
      exact p B1 H1 σ F _ (S1.less fun a z => .inl z) fun xs es M2 B2 H2 δ2 e2 f2 S2 ha n2 r => kk ((f, v) :: xs) ((f, .inl x) :: es) M2 B2 H2 δ2 (e1.trans e2) (fun a z => (f2 a z).trans (f1 a z)) S2 (.d (dp_mono e2 _ _ w1.1) ha) n2 r
    · subst es
      obtain ⟨p0, ys, rfl, hp, hd, hM⟩ := w1
      refine p B1 H1 σ _ _ S1 fun xs es M2 B2 H2 δ2 e2 f2 S2 ha n2 r => kk ((f, .ref p0) :: xs) ((f, .inr ds) :: es) (fun a => a = p0 ∨ M2 a) B2 H2 δ2 (e1.trans e2) (fun a z => (f2 a (.inl z)).trans (f1 a z)) (S2.less fun a z => z.elim (fun z => .inl (.inl z)) fun z => z.elim (fun z => .inl (.inr ((hM a).mpr z))) .inr) (.l (by rw [f2 p0 (.inr ((hM p0).mpr rfl))]; exact hp) (dpa_mono e2 _ _ hd) (fun z => n2 p0 z (.inr ((hM p0).mpr rfl))) ha) (fun a z hf => z.elim (fun z => n1 a ((hM a).mpr z) hf) fun z => n2 a z (.inl hf)) r
theorem eq_consF {f : Str} {trs : List (TE × TE)} {Φ : List Ent → List Slot → Prop} (h : EvD K tb δ fun x δ1 => EvPq K trs δ1 fun es δ2 => Φ ((f, .inl x) :: es) δ2) : EvPq K ((tC (.str f), tb) :: trs) δ Φ := fun B H σ F Q S kk =>
  h B H σ F _ S fun v x B1 H1 δ1 e1 f1 S1 hd p => p B1 H1 σ F _ S1 fun xs es M2 B2 H2 δ2 e2 f2 S2 ha n2 r => kk ((f, v) :: xs) ((f, .inl x) :: es) M2 B2 H2 δ2 (e1.trans e2) (fun a z => (f2 a z).trans (f1 a z)) S2 (.d (dp_mono e2 _ _ hd) ha) n2 r
theorem ev_dispQ {trs : List (TE × TE)} (h : EvPq K trs δ fun es δ1 => es.length ≤ 15 ∧ (es.map (·.1)).Nodup ∧ ∀ p as, as.length = entN es → Φ (.ow (RH K p ((p, .dct (entF es as)) :: entC es as))) δ1) : EvS K (tDisp trs) δ Φ := fun B H σ F Q S k p hp => by
  have S1 := sd_own (o := .dK []) S hp
  refine h B _ σ _ _ S1 fun xs es M B2 H2 δ2 e f S2 ha nM ⟨hl, hnd, q⟩ => ?_
  have hH2p : H2 p = some (.dK []) := by rw [f p (.inr rfl), upd_same]
  have hkeys := pall_len ha
  refine ⟨hH2p, xs.map fun kv => (.inr kv.1, kv.2), by rw [List.map_map]; rfl, by rw [List.length_map, ← List.length_map (f := (·.1)), hkeys, List.length_map]; exact hl, ?_⟩
  obtain ⟨as, c1, c2, c3, c4, c5⟩ := pall_cells ha
  have hm : mergeK [] (xs.map fun kv => ((.inr kv.1 : Key), kv.2)) = xs.map fun kv => (.inr kv.1, kv.2) := by
    refine merge_new _ [] ?_
    rw [List.nil_append, List.map_map]
    have e1 : (xs.map ((fun x : Key × V => x.1) ∘ fun kv => ((.inr kv.1 : Key), kv.2))) = (xs.map (·.1)).map (fun x : Str => (.inr x : Key)) := by rw [List.map_map]; rfl
    rw [e1, hkeys]
    unfold List.Nodup
    rw [List.pairwise_map]
    exact hnd.imp fun h z => h (Sum.inr.inj z)
  rw [hm]
  have hbp : B2 p = none := S2.fb p (.inl (.inr rfl))
  have nF : ∀ a, F a → a ≠ p := fun a z e => S.fl a z (by rw [e]; exact hp)
  have nMp : ∀ a, M a → a ≠ p := fun a z e => nM a z (.inr e)
  refine k (.ref p) (fun a => a = p ∨ M a) (.ow (RH K p ((p, .dct (entF es as)) :: entC es as))) B2 _ δ2 e (fun a z => by rw [upd_ne (nF a z), f a (.inl z), upd_ne (nF a z)]) ?_ ⟨rfl, fun y hy => ?_, ?_, fun a => ?_⟩ (fun a z hf => z.elim (fun z => nF a hf z) fun z => nM a z (.inl hf)) (q p as c1)
  · obtain ⟨ms, h1, h2, h3, h4⟩ := S2.sl
    refine ⟨fun a u ha' => ?_, S2.len, fun a z => S2.fb a (z.elim (fun z => .inl (.inl z)) fun z => z.elim (fun z => .inl (.inr z)) .inr), fun a z => ?_, ms, fun i s hs => ?_, h2, fun i a q z => h3 i a q (z.elim (fun z => .inl (.inl z)) fun z => z.elim (fun z => .inl (.inr z)) .inr), h4⟩
    · rw [upd_ne (fun e => by rw [e, hbp] at ha'; cases ha')]
      exact S2.bh a u ha'
    · by_cases e5 : a = p
      · rw [e5, upd_same]; exact fun z => nomatch z
      · rw [upd_ne e5]
        exact S2.fl a (z.elim (fun z => .inl (.inl z)) fun z => z.elim (fun z => .inl (.inr z)) .inr)
    · have q := h1 i s hs
      cases s with
      | non => exact q
      | pu x => exact q
      | ow R =>
        obtain ⟨v, ev, hP, hb'⟩ := q
        exact ⟨v, ev, R.loc hP (Ex.refl _) fun a z => upd_ne fun e5 => h3 i a z (.inl (.inr e5)), hb'⟩
      | al _ => exact q
  · rcases List.mem_cons.mp hy with rfl | hy
    · exact ⟨_, upd_same, c2⟩
    · rw [upd_ne (nMp _ ((c5 _).mpr (List.mem_map.mpr ⟨y, hy, rfl⟩)))]
      exact c3 y hy
  · show (p :: (entC es as).map (·.1)).Nodup
    exact List.nodup_cons.mpr ⟨fun z => nMp p ((c5 p).mpr z) rfl, c4⟩
  · show _ ↔ a ∈ p :: (entC es as).map (·.1)
    rw [List.mem_cons, ← c5 a]
/-- k.update([("f", []), ("g", data)]), both keys new -/
theorem ev_updLW {j : Nat} {f g : Str} (h : EvD K te δ fun x δ1 => ∃ p fs cs, δ1[j]? = some (.ow (RH K p ((p, .dct fs) :: cs))) ∧ ((fs.map (·.1)) ++ [f, g]).Nodup ∧ fs.length < 1000 ∧ ∀ a, Φ (.pu .none) (δ1.set j (.ow (RH K p ((p, .dct (fs ++ [(f, .r a), (g, .d x)])) :: (cs ++ [(a, .lst [])])))))) (h0 : ∃ p fs cs, δ[j]? = some (.ow (RH K p ((p, .dct fs) :: cs)))) :
    EvS K (tBM K "dict" (Rk.rUpdP K) (tVar j) (tCons (tLst (tCons (tTup (tCons (tC (.str f)) (tCons (tLst tNil) tNil))) (tCons (tTup (tCons (tC (.str g)) (tCons te tNil))) tNil))) tNil)) δ Φ := fun B H σ F Q S k => by
  obtain ⟨p0, fs0, cs0, hj0⟩ := h0
  obtain ⟨v0, M0, ev0, hP0, hb0, hF0, _⟩ := S.opn hj0
  obtain ⟨⟨ys0, e0, _⟩, hM0⟩ := RH.get (K := K) (root := p0) hP0 (List.mem_cons_self ..)
  obtain rfl := hP0.1
  refine ⟨_, ev0, .inr (.inr (.inl ⟨rfl, .inl ⟨_, e0⟩⟩)), ?_⟩
  show 0 ≤ sizeLine ∧ ∀ a, H a = none → _
  refine ⟨Nat.zero_le _, fun a ha => ?_⟩
  have S1 := sd_own (o := .lst []) S ha
  show 2 ≤ sizeLine ∧ ∀ t1, _
  refine ⟨by rw [sizeLine_eq]; decide, fun t1 ht1 => ?_⟩
  have S2 := sd_own (o := .tup [.str f, .ref a]) S1 ht1
  have nt1 : a ≠ t1 := fun e => by rw [← e, upd_same] at ht1; cases ht1
  refine h B _ σ _ _ S2 fun v x B3 H3 δ1 e3 f3 S3 hd ⟨p, fs, cs, hj, hnd, hfl, q⟩ => ?_
  have h3t : H3 t1 = some (.tup [.str f, .ref a]) := by rw [f3 t1 (.inr rfl), upd_same]
  have h3a : H3 a = some (.lst []) := by rw [f3 a (.inl (.inr rfl)), upd_ne nt1, upd_same]
  show 2 ≤ sizeLine ∧ ∀ t2, _
  refine ⟨by rw [sizeLine_eq]; decide, fun t2 ht2 => ?_⟩
  have S4 := S3.grow (Gr.own (o := .tup [.str g, v]) S3.bh ht2)
  have n2 : ∀ c o, H3 c = some o → c ≠ t2 := fun c o hc e => by rw [e, ht2] at hc; cases hc
  show 2 ≤ sizeLine ∧ ∀ l, _
  refine ⟨by rw [sizeLine_eq]; decide, fun l hl => ?_⟩
  have S5 := S4.grow (Gr.own (o := .lst [.ref t1, .ref t2]) S4.bh hl)
  have hl3 : H3 l = none ∧ l ≠ t2 := by
    by_cases e : l = t2
    · rw [e, upd_same] at hl; cases hl
    · rw [upd_ne e] at hl; exact ⟨hl, e⟩
  have n3 : ∀ c o, H3 c = some o → c ≠ l := fun c o hc e => by rw [e, hl3.1] at hc; cases hc
  generalize hH5 : upd (upd H3 t2 (.tup [.str g, v])) l (.lst [.ref t1, .ref t2]) = H5 at S5
  have k5 : ∀ c o, H3 c = some o → H5 c = some o := fun c o hc => by rw [← hH5, upd_ne (n3 c o hc), upd_ne (n2 c o hc)]; exact hc
  have S5' : Sd K B3 H5 σ δ1 (fun c => F c ∨ c = a) := S5.less fun c z => z.elim (fun z => .inl (.inl z)) fun z => .inl (.inr z)
  obtain ⟨v', M', ev, hP, hb, hdis, op⟩ := S5'.chg (M1 := fun c => c = a) (fun c hc hf => S.fl c hf (by rw [hc]; exact ha)) hj
  obtain ⟨⟨ys, ey, hy⟩, hMp⟩ := RH.get (K := K) (root := p) hP (List.mem_cons_self ..)
  obtain ⟨rfl, g1, g2, g3⟩ := hP
  rw [ev0] at ev
  cases ev
  have npa : p0 ≠ a := fun e => (hdis p0 hMp).2 e
  have hbp : B3 p0 = none := hb p0 hMp
  have np3 : H3 p0 ≠ none := fun z => by
    have := S.fl
    have hh : H p0 ≠ none := by rw [e0]; exact fun z => nomatch z
    have h1 : upd (upd H a (.lst [])) t1 (.tup [.str f, .ref a]) p0 ≠ none := by
      by_cases e : p0 = t1
      · rw [e, upd_same]; exact fun z => nomatch z
      · rw [upd_ne e]
        by_cases e2 : p0 = a
        · rw [e2, upd_same]; exact fun z => nomatch z
        · rw [upd_ne e2]; exact hh
    obtain ⟨vv, MM, evv, hPP, _⟩ := S3.opn hj
    rw [ev0] at evv
    cases evv
    obtain ⟨⟨yy, ee, _⟩, _⟩ := RH.get (K := K) (root := p0) hPP (List.mem_cons_self ..)
    rw [ee] at z
    cases z
  obtain ⟨o3, ho3⟩ := some_of_ne np3
  have hkeys : ys.map (·.1) = fs.map (fun y => (.inr y.1 : Key)) := tsa_keys hy
  refine ⟨p0, l, [t1, t2], ys, [(.inr f, .ref a), (.inr g, v)], rfl, rfl, ey, SqL.of (by rw [← hH5, upd_same]; rfl), .cons (SqT.of (k5 t1 _ h3t)) (.cons (SqT.of (by rw [← hH5, upd_ne (fun e => hl3.2 e.symm), upd_same]; rfl)) .nil), ?_, n3 p0 o3 ho3, ?_, ?_⟩
  · rw [tsa_len hy, sizeLine_eq]
    show fs.length + 2 ≤ _
    omega
  · intro hm
    rcases List.mem_cons.mp hm with e | hm
    · rw [← e] at h3t
      have := k5 _ _ h3t
      rw [ey] at this
      cases this
    · exact n2 p0 o3 ho3 (List.mem_singleton.mp hm)
  · have hmer : mergeK ys [((.inr f : Key), V.ref a), (.inr g, v)] = ys ++ [(.inr f, .ref a), (.inr g, v)] := by
      refine merge_new _ _ ?_
      rw [List.map_append, hkeys]
      have e1 : (fs.map (fun y => (.inr y.1 : Key))) ++ [((.inr f : Key), V.ref a), (.inr g, v)].map (·.1) = ((fs.map (·.1)) ++ [f, g]).map (fun x : Str => (.inr x : Key)) := by
        rw [List.map_append, List.map_map]; rfl
      rw [e1]
      unfold List.Nodup
      rw [List.pairwise_map]
      exact hnd.imp fun h z => h (Sum.inr.inj z)
    rw [hmer]
    have k6 : ∀ c, c ≠ p0 → upd H5 p0 (.dK (ys ++ [(.inr f, .ref a), (.inr g, v)])) c = H5 c := fun c hc => upd_ne hc
    have hn : p0 ∉ cs.map (·.1) := (List.nodup_cons.mp g2).1
    have S6 := op B3 (upd H5 p0 (.dK (ys ++ [(.inr f, .ref a), (.inr g, v)]))) (some (.ref p0)) (.ow (RH K p0 ((p0, .dct (fs ++ [(f, .r a), (g, .d x)])) :: (cs ++ [(a, .lst [])])))) (fun c => M' c ∨ c = a) (fun _ => False) (Ex.refl _) (fun c u hc => by
      rw [k6 c (fun e => by rw [e, hbp] at hc; cases hc)]
      exact S5.bh c u hc) (fun c o hc hn _ => by rw [k6 c (fun e => hn (by rw [e]; exact hMp))]; exact hc) (fun _ _ z => .inl z)
      ⟨_, rfl, ⟨rfl, fun y hy' => ?_, ?_, fun c => ?_⟩, fun c z => ?_⟩ (fun c z => z.elim .inl fun z => .inr (.inl z)) (fun c z => z.elim)
    · rw [set_self ev0] at S6
      refine k .non (fun _ => False) (.pu .none) B3 _ _ e3 (fun c z => ?_) (S6.less fun c z => z) ⟨.non, fun _ z => z⟩ (fun _ z => z.elim) (q a)
      have hcF : c ≠ p0 := fun e => (hdis p0 hMp).1 (e ▸ z)
      have hca : c ≠ a := fun e => S.fl c z (by rw [e]; exact ha)
      obtain ⟨oc, hoc⟩ := some_of_ne (S.fl c z)
      have hct : c ≠ t1 := fun e => by
        rw [← e, upd_ne hca, hoc] at ht1; cases ht1
      have h3c : H3 c = some oc := by rw [f3 c (.inl (.inl z)), upd_ne hct, upd_ne hca, hoc]
      rw [k6 c hcF, k5 c oc h3c, hoc]
    · rcases List.mem_cons.mp hy' with rfl | hy'
      · exact ⟨_, upd_same, tsa_app hy (.cons rfl (.cons hd .nil))⟩
      · rcases List.mem_append.mp hy' with hy' | hy'
        · rw [k6 y.1 (fun e => hn (e ▸ List.mem_map.mpr ⟨y, hy', rfl⟩))]
          exact g1 y (List.mem_cons_of_mem _ hy')
        · rw [List.mem_singleton.mp hy', k6 a (fun e => npa e.symm)]
          exact ⟨[], k5 a _ h3a, .nil⟩
    · show (p0 :: (cs ++ [(a, Cell.lst [])]).map (·.1)).Nodup
      rw [List.map_append]
      refine List.nodup_cons.mpr ⟨fun z => ?_, ?_⟩
      · rcases List.mem_append.mp z with z | z
        · exact hn z
        · exact npa (List.mem_singleton.mp z)
      · rw [List.nodup_append]
        refine ⟨(List.nodup_cons.mp g2).2, List.nodup_cons.mpr ⟨by simp, List.nodup_nil⟩, fun y hy b hb e => ?_⟩
        rw [show b = a from List.mem_singleton.mp hb] at e
        exact (hdis y ((g3 y).mpr (List.mem_cons_of_mem _ hy))).2 e
    · show _ ↔ c ∈ p0 :: (cs ++ [(a, Cell.lst [])]).map (·.1)
      rw [List.map_append, List.mem_cons, List.mem_append]
      have := g3 c
      rw [List.map_cons, List.mem_cons] at this
      show M' c ∨ c = a ↔ _ ∨ _ ∨ c ∈ [a]
      rw [this, List.mem_singleton]
      exact or_assoc
    · rcases z with z | z
      · exact hb c z
      · rw [z]; exact S5'.fb a (.inr rfl)
end
end Dl

/-! Dl26: lists of owned lists as data now; a, b = x, y of owned things; clear. -/
namespace Dl
open PySem PySem.Spec PyProof.Rows L2
open Evl (Ex)
/-- what R owns is the datum d now, with what is in B -/
def DeepD (K : PySem.W.Frag) (R : Res) (d : PyData) : Prop := ∀ v B H M, R.P v B H M → Ex B H → Dp K H v d
def DeepD2 (K : PySem.W.Frag) (R Rj : Res) (d : PyData) : Prop := ∀ v B H M v' M', R.P v B H M → Rj.P v' B H M' → Ex B H → Dp K H v d
def den2x (K : PySem.W.Frag) (δ : List Slot) (s : Slot) (d : PyData) : Prop :=
  den K δ s d ∨ (∃ R : Res, s = Slot.ow R ∧ DeepD K R d) ∨ (∃ (i : Nat) (R : Res), s = Slot.al i ∧ δ[i]? = some (Slot.ow R) ∧ DeepD K R d) ∨ ∃ (R : Res) (j : Nat) (Rj : Res), s = Slot.ow R ∧ δ[j]? = some (Slot.ow Rj) ∧ DeepD2 K R Rj d
inductive DenA2 (K : PySem.W.Frag) (δ : List Slot) : List Slot → List PyData → Prop
  | nil : DenA2 K δ [] []
  | cons {s : Slot} {d : PyData} {ss : List Slot} {ds : List PyData} : den2x K δ s d → DenA2 K δ ss ds → DenA2 K δ (s :: ss) (d :: ds)
section
variable {K : PySem.W.Frag} {w : World} {δ : List Slot} {te ta tb tc : TE} {tr : TA} {tt : TT} {t u : TS} {d : Dn} {Φ : Slot → List Slot → Prop}
theorem den2x_dp {B H : Hp} {σ : L2.St} {F' M : Addr → Prop} {v : V} {s : Slot} {x : PyData} (S : Sd K B H σ δ F') (h : VOk K σ δ B H v M s) (hd : den2x K δ s x) : Dp K H v x := by
  rcases hd with hd | ⟨R, rfl, hd⟩ | ⟨i, R, rfl, hi, hd⟩ | ⟨R, j, Rj, rfl, hj, hd⟩
  · exact (den_dr S h hd).dp S.bh
  · exact hd _ _ _ _ h S.bh
  · obtain ⟨v', M', ev, hP, _⟩ := S.opn hi
    rw [h.1] at ev
    cases ev
    exact hd _ _ _ _ hP S.bh
  · obtain ⟨v', M', ev, hP, _⟩ := S.opn hj
    exact hd _ _ _ _ _ _ h hP S.bh
theorem aok_dp2 {B H : Hp} {σ : L2.St} {ss : List Slot} {F' : Addr → Prop} {vs : List V} {M : Addr → Prop} (S : Sd K B H σ δ F') (h : AOk K σ δ B H vs ss M) : ∀ {ds : List PyData}, DenA2 K δ ss ds → DpAll K H vs ds := by
  induction h with
  | nil => intro ds hd; cases hd; exact .nil
  | cons h1 h2 h3 ih =>
    intro ds hd
    cases hd with
    | cons a b => exact .cons (den2x_dp S h1 a) (ih b)
theorem ev_callF2 {n : Nat} {pre : List PyData → Prop} {T : List PyData → Rt → Prop} {E : XK} (h : EvA K tr δ fun ss δ1 => ∃ ds, DenA2 K δ1 ss ds ∧ ds.length = n ∧ pre ds ∧ ∀ r, T ds r → ∃ z, r = .d z ∧ flatD z = true ∧ Φ (.pu z) δ1) : EvS K (tCall (spP K n pre T) [] E tr) δ Φ := fun B H σ F Q S k =>
  h B H σ F _ S fun vs M ss B2 H2 δ1 e f S2' w nn ⟨ds, hds, hn, hp, q⟩ => by
    show spP K n pre T (vs ++ []) H2 Q E
    rw [List.append_nil]
    have ha := aok_dp2 S2' w hds
    have S2 : Sd K B2 H2 σ δ1 F := S2'.less fun a z => .inl z
    refine ⟨H2, ds, Ex.refl _, ha, hn, hp, fun v B3 H3 r g' hr hT => ?_⟩
    have g : Gr B2 H2 B2 H3 := ⟨Ex.refl _, g'.h, S2.bh.trans g'.h, fun _ _ z => .inl z⟩
    have f3 : ∀ a, F a → H3 a = H a := fun a z => (ex_eq g.h (S2.fl a z)).trans (f a z)
    obtain ⟨z, rfl, fl, qq⟩ := q r hT
    exact k v (fun _ => False) (.pu z) B2 H3 δ1 e f3 ((S2.grow g).less fun a z => z.elim id False.elim) ⟨dp_any fl hr, fun _ z => z⟩ (fun _ z => z.elim) qq
/-- [x, y], x a new list, y a new list or a reference -/
theorem ev_lst2 (h : EvS K ta δ fun s1 δ1 => ∃ ds1, s1 = .ow (RL K ds1) ∧ EvS K tb δ1 fun s2 δ2 => (∃ ds2, s2 = .ow (RL K ds2) ∧ ∀ D a1 a2, Φ (.ow (RH K D [(D, .lst [.r a1, .r a2]), (a1, .lst (ds1.map .d)), (a2, .lst (ds2.map .d))])) δ2) ∨ ∃ b, s2 = .ow (RRef b) ∧ ∀ D a1, Φ (.ow (RH K D [(D, .lst [.r a1, .r b]), (a1, .lst (ds1.map .d))])) δ2) : EvS K (tLst (tCons ta (tCons tb tNil))) δ Φ := fun B H σ F Q S k =>
  h B H σ F _ S fun v1 M1 s1 B1 H1 δ1 e1 f1 S1 w1 n1 ⟨ds1, es1, p⟩ => by
    subst es1
    refine p B1 H1 σ _ _ S1 fun v2 M2 s2 B2 H2 δ2 e2 f2 S2 w2 n2 q => ?_
    obtain ⟨a1, xs1, rfl, h1, hd1, hM1⟩ := w1
    have h12 : H2 a1 = some (.lst xs1) := by rw [f2 a1 (.inr ((hM1 a1).mpr rfl))]; exact h1
    have na1 : ¬ F a1 := n1 a1 ((hM1 a1).mpr rfl)
    show 2 ≤ sizeLine ∧ ∀ D, _
    refine ⟨by rw [sizeLine_eq]; decide, fun D hD => ?_⟩
    have S3 := sd_own (o := .lst [.ref a1, v2]) S2 hD
    have nD : ∀ c, H2 c ≠ none → c ≠ D := fun c hc e => hc (by rw [e]; exact hD)
    have hF2 : ∀ c, F c → H2 c ≠ none := fun c z => S2.fl c (.inl (.inl z))
    have a1D : a1 ≠ D := nD a1 (nn_of h12)
    rcases q with ⟨ds2, es2, q⟩ | ⟨b, es2, q⟩
    · subst es2
      obtain ⟨a2, xs2, rfl, h2, hd2, hM2⟩ := w2
      have na2 : a2 ≠ a1 := fun e => n2 a2 ((hM2 a2).mpr rfl) (.inr (by rw [e]; exact (hM1 a1).mpr rfl))
      have na2F : ¬ F a2 := fun z => n2 a2 ((hM2 a2).mpr rfl) (.inl z)
      have a2D : a2 ≠ D := nD a2 (nn_of h2)
      refine k (.ref D) (fun c => c = D ∨ c = a1 ∨ c = a2) (.ow (RH K D _)) B2 _ δ2 (e1.trans e2) (fun c z => by rw [upd_ne (nD c (hF2 c z)), f2 c (.inl z), f1 c z]) (S3.less fun c z => ?_) ⟨rfl, fun y hy => ?_, ?_, fun c => ?_⟩ (fun c z hf => ?_) (q D a1 a2)
      · rcases z with z | z | z | z
        · exact .inl (.inl (.inl z))
        · exact .inr z
        · exact .inl (.inl (.inr ((hM1 c).mpr z)))
        · exact .inl (.inr ((hM2 c).mpr z))
      · rcases List.mem_cons.mp hy with rfl | hy
        · exact ⟨_, upd_same, .cons rfl (.cons rfl .nil)⟩
        rcases List.mem_cons.mp hy with rfl | hy
        · exact ⟨xs1, by rw [upd_ne a1D]; exact h12, cva_data (dpa_mono e2 _ _ hd1)⟩
        · rw [List.mem_singleton.mp hy]
          exact ⟨xs2, by rw [upd_ne a2D]; exact h2, cva_data hd2⟩
      · show [D, a1, a2].Nodup
        simp only [List.nodup_cons, List.mem_cons, List.not_mem_nil, or_false, not_or, not_false_eq_true, List.nodup_nil, and_true]
        exact ⟨⟨fun e => a1D e.symm, fun e => a2D e.symm⟩, fun e => na2 e.symm⟩
      · show _ ↔ c ∈ [D, a1, a2]
        simp
      · rcases z with z | z | z
        · exact nD c (hF2 c hf) z
        · exact na1 (z ▸ hf)
        · exact na2F (z ▸ hf)
    · subst es2
      obtain ⟨rfl, hM2⟩ := w2
      refine k (.ref D) (fun c => c = D ∨ c = a1) (.ow (RH K D _)) B2 _ δ2 (e1.trans e2) (fun c z => by rw [upd_ne (nD c (hF2 c z)), f2 c (.inl z), f1 c z]) (S3.less fun c z => ?_) ⟨rfl, fun y hy => ?_, ?_, fun c => ?_⟩ (fun c z hf => ?_) (q D a1)
      · rcases z with z | z | z
        · exact .inl (.inl (.inl z))
        · exact .inr z
        · exact .inl (.inl (.inr ((hM1 c).mpr z)))
      · rcases List.mem_cons.mp hy with rfl | hy
        · exact ⟨_, upd_same, .cons rfl (.cons rfl .nil)⟩
        · rw [List.mem_singleton.mp hy]
          exact ⟨xs1, by rw [upd_ne a1D]; exact h12, cva_data (dpa_mono e2 _ _ hd1)⟩
      · show [D, a1].Nodup
        simp only [List.nodup_cons, List.mem_cons, List.not_mem_nil, or_false, not_or, not_false_eq_true, List.nodup_nil, and_true]
        exact fun e => a1D e.symm
      · show _ ↔ c ∈ [D, a1]
        simp
      · rcases z with z | z
        · exact nD c (hF2 c hf) z
        · exact na1 (z ▸ hf)
theorem cells_lst {B H : Hp} {a : Addr} {ds : List PyData} (h : CellAt K B (H a) (.lst (ds.map .d))) (e : Ex B H) : Dp K H (.ref a) (.list ds) := by
  obtain ⟨xs, h1, h2⟩ := h
  exact .lst (SqL.of h1) (dpa_mono e _ _ (cva_data' h2))
theorem deep_two {D a1 a2 : Addr} {ds1 ds2 : List PyData} {cs : Cells} {root : Addr} (hr : root = D) (h0 : (D, Cell.lst [.r a1, .r a2]) ∈ cs) (h1 : (a1, Cell.lst (ds1.map .d)) ∈ cs) (h2 : (a2, Cell.lst (ds2.map .d)) ∈ cs) : DeepD K (RH K root cs) (.list [.list ds1, .list ds2]) := fun v B H M hP e => by
  obtain ⟨xs, g1, g2⟩ := (RH.get hP h0).1
  obtain rfl := hP.1
  subst hr
  have := cva_refs (as := [a1, a2]) g2
  subst this
  exact .lst (SqL.of g1) (.cons (cells_lst (RH.get hP h1).1 e) (.cons (cells_lst (RH.get hP h2).1 e) .nil))
theorem deep_ref {D a1 b : Addr} {ds1 ds2 : List PyData} {cs cs2 : Cells} {root r2 : Addr} (hr : root = D) (h0 : (D, Cell.lst [.r a1, .r b]) ∈ cs) (h1 : (a1, Cell.lst (ds1.map .d)) ∈ cs) (h2 : (b, Cell.lst (ds2.map .d)) ∈ cs2) : DeepD2 K (RH K root cs) (RH K r2 cs2) (.list [.list ds1, .list ds2]) := fun v B H M v' M' hP hP2 e => by
  obtain ⟨xs, g1, g2⟩ := (RH.get hP h0).1
  obtain rfl := hP.1
  subst hr
  have := cva_refs (as := [a1, b]) g2
  subst this
  exact .lst (SqL.of g1) (.cons (cells_lst (RH.get hP h1).1 e) (.cons (cells_lst (RH.get hP2 h2).1 e) .nil))
/-- xs.clear(), xs a list inside -/
def ClrD (R R' : Res) (b : Addr) : Prop := ∀ v B H M, R.P v B H M → ∃ xs, H b = some (.lst xs) ∧ M b ∧ R'.P v B (upd H b (.lst [])) M
theorem ev_clrR (h : EvS K ta δ fun s δ1 => ∃ (b : Addr) (i : Nat) (R R' : Res), s = .ow (RRef b) ∧ δ1[i]? = some (.ow R) ∧ ClrD R R' b ∧ Φ (.pu .none) (δ1.set i (.ow R'))) : EvS K (tBM0 K "list" rClear ta) δ Φ := fun B H σ F Q S k =>
  h B H σ F _ S fun v M s B1 H1 δ1 e1 f1 S1 wk n1 ⟨b, i, R, R', es, hi, hp, q⟩ => by
    subst es
    obtain ⟨rfl, hM⟩ := wk
    have S1' : Sd K B1 H1 σ δ1 F := S1.less fun a z => .inl z
    obtain ⟨v', M', ev, hP, put⟩ := S1'.putR hi
    obtain ⟨xs, g1, g2, g3⟩ := hp _ _ _ _ hP
    obtain ⟨S3, f3⟩ := put b _ R' g2 g3
    exact ⟨.inl ⟨rfl, xs, SqL.of g1⟩, b, xs, rfl, rfl, g1, k .non (fun _ => False) (.pu .none) B1 _ _ e1 (fun c z => (f3 c z).trans (f1 c z)) (S3.less fun c z => z.elim id False.elim) ⟨.non, fun _ z => z⟩ (fun _ z => z.elim) q⟩
theorem clr_d {root a : Addr} {cs : Cells} {cs' : Cell → Cells} {xs : List CV} (hh : Has cs a (.lst xs) cs') : ClrD (RH K root cs) (RH K root (cs' (.lst []))) a := fun v B H M h => by
  obtain ⟨⟨ys, e1, e2⟩, hM⟩ := RH.get h hh.mem
  exact ⟨ys, e1, hM, RH.put h hh ⟨_, rfl, .nil⟩⟩
/-- a, b = x, y, both owned -/
theorem xs_par2 {i j : Nat} (h : EvA K tr δ fun ss δ1 => ∃ R1 R2, ss = [.ow R1, .ow R2] ∧ i < δ1.length ∧ j < δ1.length ∧ d.nx ((δ1.set i (.ow R1)).set j (.ow R2))) : ExS K (tPar i j tr) d δ := fun B H σ F D S L =>
  h B H σ F _ S fun vs M ss B2 H2 δ1 e f S2 ha nF ⟨R1, R2, es, hi, hj, q⟩ => by
    subst es
    cases ha with
    | @cons v1 _ M1 vs1 _ M2 h1 n12 t =>
      cases t with
      | @cons v2 _ M3 vs2 _ M4 h2 n34 t =>
        cases t
        have S3 : Sd K B2 H2 σ δ1 (fun a => (F a ∨ M3 a) ∨ M1 a) := S2.less fun a z => z.elim (fun z => z.elim .inl fun z => .inr (.inr (.inl z))) fun z => .inr (.inl z)
        have S4 := S3.put_ow (i := i) h1 (fun a z f => f.elim (fun f => nF a (.inl z) f) fun f => n12 a z (.inl f)) hi
        have S5 := S4.put_ow (i := j) h2 (fun a z f => nF a (.inr (.inl z)) f) (by rw [List.length_set]; exact hj)
        exact ⟨v1, v2, rfl, L.nx B2 H2 _ _ e f S5 q⟩
/-- three statements, what holds behind them, the rest -/
theorem xs_mid3 {A C D R : TS} (I : List Slot → Prop) (h : ExS K A { d with nx := ExS K C { d with nx := ExS K D { d with nx := I } } } δ) (hR : ∀ δ', I δ' → ExS K R d δ') : ExS K (tSeq A (tSeq C (tSeq D R))) d δ :=
  xs_seq (xs_mid _ h fun δ1 h1 => xs_seq (xs_mid _ h1 fun δ2 h2 => xs_seq (xs_mid I h2 hR)))
end
end Dl

/-! Rk8: max of a list of data that are alike: the first greatest item as it stands. -/
namespace Rk
open PySem PySem.W PySem.SeqAt PySem.Spec PyProof.Rows L2
def rMaxD (K : PySem.W.Frag) : List V → Hp → VK → Prop := fun args H Q => ∃ (a : Addr) (ys : List V) (d : PyData) (ds : List PyData), args = [V.ref a] ∧ SqL K H a ys ∧ DpAll K H ys (d :: ds) ∧ AlikeAll (d :: ds) ∧ PyData.depthAll (d :: ds) ≤ 60 ∧
  ∀ (i : Nat) (y : V), ys[i]? = some y → (d :: ds)[i]? = some (maxD d ds) → Q y H
theorem cr_maxD {X : Cx} (calm : X.calm = true) (room : X.A.units + 64 < cLine) : CallR X (.builtin "max") (rMaxD X.K) := by
  intro pins st σ H args us Q inv rel ask
  obtain ⟨a, ys, d, ds, rfl, hl, hd, al, dep, go⟩ := ask
  obtain ⟨its, rv, isl, _⟩ := inv.list hl
  rw [Vals.ref1 rel]
  obtain ⟨as, rd⟩ := Dp.readsAll inv (d :: ds) ys its hd rv
  have cnt : its.length = ds.length + 1 := by
    have l1 := rv.length
    have l2 := Dl.dpa_len hd
    rw [List.length_cons] at l2
    exact l1.symm.trans l2
  have rd2 : ReadsAll st.heap its.toArray.toList (d :: ds) as := rd
  refine call_max_walkH (iter_listW (A := X.A.in1) (inv.ok.hd calm) isl.isList fun st2 eq2 walk at2 below nowr keep2 => ?_)
  refine ⟨_, _, _, _, _, _, _, st.heap, _, rfl, walk, at2, below, (by rw [List.size_toArray]; omega), nowr, keep2, cmpIn_gt (A := X.A.in1) rd2 al (by show X.A.units + 1 + _ < _; omega), fun u st3 hu moved => ?_⟩
  obtain ⟨heap3, toks3, rfl, keep3⟩ := moved_old eq2 rfl moved
  have fold := argBest_fold (fun x y => dataLt y x) PyData.none d ds ds.length (Nat.le_refl _)
  rw [List.take_length] at fold
  have hn : its.toArray.size - 1 = ds.length := by rw [List.size_toArray]; omega
  rw [hn] at hu
  have hu' : its[argBest (fun i j => dataLt ((d :: ds).getD j .none) ((d :: ds).getD i .none)) ds.length]? = some u := by
    have : its.toArray[argBest (fun i j => dataLt ((d :: ds).getD j .none) ((d :: ds).getD i .none)) ds.length]? = some u := hu
    rwa [List.getElem?_toArray] at this
  generalize argBest (fun i j => dataLt ((d :: ds).getD j .none) ((d :: ds).getD i .none)) ds.length = k at fold hu'
  have hk : k < (d :: ds).length := by rw [List.length_cons]; omega
  obtain ⟨y, hy⟩ : ∃ y, ys[k]? = some y := ⟨_, List.getElem?_eq_getElem (by rw [Dl.dpa_len hd]; exact hk)⟩
  obtain ⟨u2, hu2, ry⟩ := rv.get hy
  rw [hu'] at hu2
  cases hu2
  refine ⟨y, H, inv.kept keep3, ry, go k y hy ?_⟩
  have e2 := fold.2
  rw [List.getD_eq_getElem?_getD, List.getElem?_eq_getElem hk] at e2
  rw [List.getElem?_eq_getElem hk]
  exact congrArg some e2
end Rk
namespace Kk
open PySem PySem.W PySem.Spec PyProof.Rows L2
theorem cr_maxD {X : Cx} {K : PySem.W.Frag} (a : X.calm = true) (b : X.A.units + 64 < cLine) (h : X.K = K := by rfl) : CallR X (.builtin "max") (Rk.rMaxD K) := h ▸ Rk.cr_maxD a b
end Kk

/-! Dl27: dicts whose keys are tuples of ints, data as values; tuples that own; max of data; range(a, b, -1). -/
namespace Dl
open PySem PySem.Spec PyProof.Rows L2
open Evl (Ex)
/-- a tuple of ints that stands -/
def RTup (k : List Int) : Res where
  P v B _ M := (∃ b, v = .ref b ∧ B b = some (.tup (k.map V.int))) ∧ ∀ a, ¬ M a
  loc := fun ⟨⟨b, e, h⟩, hM⟩ ex _ => ⟨⟨b, e, ex b _ h⟩, hM⟩
  live := fun ⟨_, h⟩ b hb => absurd hb (h b)
def ikey (k : List Int) : List Key := k.map Sum.inl
theorem ikey_kV (k : List Int) : (ikey k).map kV = k.map V.int := by unfold ikey; rw [List.map_map]; rfl
theorem ikey_inj {a b : List Int} (h : ikey a = ikey b) : a = b := by
  unfold ikey at h
  exact (List.map_inj_right (fun _ _ e => Sum.inl.inj e)).mp h
inductive KtAll (K : PySem.W.Frag) (B : Hp) : List (List Key × V) → List (List Int × PyData) → Prop
  | nil : KtAll K B [] []
  | cons {k : List Int} {v : V} {d : PyData} {xs : List (List Key × V)} {kvs : List (List Int × PyData)} : Dp K B v d → KtAll K B xs kvs → KtAll K B ((ikey k, v) :: xs) ((k, d) :: kvs)
def lookT (kvs : List (List Int × PyData)) (k : List Int) : Option PyData := (kvs.find? fun kv => decide (kv.1 = k)).map (·.2)
def storeT (kvs : List (List Int × PyData)) (k : List Int) (d : PyData) : List (List Int × PyData) :=
  if (kvs.any fun kv => decide (kv.1 = k)) = true then kvs.map (fun kv => if kv.1 = k then (kv.1, d) else kv) else kvs ++ [(k, d)]
section
variable {K : PySem.W.Frag} {B B' : Hp}
theorem kta_mono (e : Ex B B') : ∀ {xs : List (List Key × V)} {kvs : List (List Int × PyData)}, KtAll K B xs kvs → KtAll K B' xs kvs
  | _, _, .nil => .nil
  | _, _, .cons h t => .cons (dp_mono e _ _ h) (kta_mono e t)
theorem kta_len : ∀ {xs : List (List Key × V)} {kvs : List (List Int × PyData)}, KtAll K B xs kvs → xs.length = kvs.length
  | _, _, .nil => rfl
  | _, _, .cons _ t => by simp [kta_len t]
theorem kta_look {k : List Int} : ∀ {xs : List (List Key × V)} {kvs : List (List Int × PyData)}, KtAll K B xs kvs → (lookT kvs k = none ∧ valV xs (ikey k) = none) ∨ ∃ d v, lookT kvs k = some d ∧ valV xs (ikey k) = some v ∧ Dp K B v d
  | _, _, .nil => .inl ⟨rfl, rfl⟩
  | _, _, @KtAll.cons _ _ i v d xs kvs h t => by
    by_cases e : i = k
    · subst e
      refine .inr ⟨d, v, ?_, valV_pos rfl, h⟩
      simp [lookT, List.find?_cons]
    · have e1 : lookT ((i, d) :: kvs) k = lookT kvs k := by simp [lookT, List.find?_cons, e]
      have e2 : valV ((ikey i, v) :: xs) (ikey k) = valV xs (ikey k) := valV_neg fun z => e (ikey_inj z)
      rw [e1, e2]
      exact kta_look t
theorem kta_any {k : List Int} : ∀ {xs : List (List Key × V)} {kvs : List (List Int × PyData)}, KtAll K B xs kvs → (xs.any fun kv => decide (kv.1 = ikey k)) = (kvs.any fun kv => decide (kv.1 = k))
  | _, _, .nil => rfl
  | _, _, @KtAll.cons _ _ i v d xs kvs h t => by
    rw [List.any_cons, List.any_cons, kta_any t]
    congr 1
    exact decide_eq_decide.mpr ⟨fun z => ikey_inj z, fun z => congrArg ikey z⟩
theorem kta_app : ∀ {xs ys : List (List Key × V)} {kvs lvs : List (List Int × PyData)}, KtAll K B xs kvs → KtAll K B ys lvs → KtAll K B (xs ++ ys) (kvs ++ lvs)
  | _, _, _, _, .nil, s => s
  | _, _, _, _, .cons r t, s => .cons r (kta_app t s)
theorem kta_map {k : List Int} {v : V} {d : PyData} (hd : Dp K B v d) : ∀ {xs : List (List Key × V)} {kvs : List (List Int × PyData)}, KtAll K B xs kvs → KtAll K B (xs.map fun kv => if kv.1 = ikey k then (kv.1, v) else kv) (kvs.map fun kv => if kv.1 = k then (kv.1, d) else kv)
  | _, _, .nil => .nil
  | _, _, @KtAll.cons _ _ i v' d' xs kvs h t => by
    rw [List.map_cons, List.map_cons]
    by_cases e : i = k
    · subst e
      rw [if_pos rfl, if_pos rfl]
      exact .cons hd (kta_map hd t)
    · rw [if_neg (fun z => e (ikey_inj z)), if_neg e]
      exact .cons h (kta_map hd t)
theorem kta_put {k : List Int} {v : V} {d : PyData} (hd : Dp K B v d) {xs : List (List Key × V)} {kvs : List (List Int × PyData)} (h : KtAll K B xs kvs) : KtAll K B (putK xs (ikey k) v) (storeT kvs k d) := by
  unfold putK storeT
  rw [kta_any h]
  split
  · exact kta_map hd h
  · exact kta_app h (.cons hd .nil)
end
/-- a dict with keys of ints, owned -/
def RDt (K : PySem.W.Frag) (kvs : List (List Int × PyData)) : Res where
  P v B H M := ∃ p xs, v = .ref p ∧ H p = some (.dT xs) ∧ KtAll K B xs kvs ∧ ∀ a, M a ↔ a = p
  loc := by
    rintro v B H B' H' M ⟨p, xs, rfl, hp, hd, hM⟩ e k
    exact ⟨p, xs, rfl, by rw [k p ((hM p).mpr rfl)]; exact hp, kta_mono e hd, hM⟩
  live := by
    rintro v B H M ⟨p, xs, rfl, hp, hd, hM⟩ a ha
    rw [(hM a).mp ha, hp]
    exact fun z => nomatch z
/-- .. that stays as it is -/
def RDf (K : PySem.W.Frag) (kvs : List (List Int × PyData)) : Res where
  P v B _ M := (∃ p xs, v = .ref p ∧ B p = some (.dT xs) ∧ KtAll K B xs kvs) ∧ ∀ a, ¬ M a
  loc := fun ⟨⟨p, xs, e, h, hd⟩, hM⟩ ex _ => ⟨⟨p, xs, e, ex p _ h, kta_mono ex hd⟩, hM⟩
  live := fun ⟨_, h⟩ b hb => absurd hb (h b)
def DtAt (K : PySem.W.Frag) (R : Res) (kvs : List (List Int × PyData)) : Prop := ∀ v B H M, R.P v B H M → Ex B H → ∃ p xs, v = .ref p ∧ H p = some (.dT xs) ∧ KtAll K B xs kvs
theorem dt_own {K : PySem.W.Frag} {kvs : List (List Int × PyData)} : DtAt K (RDt K kvs) kvs := fun v B H M ⟨p, xs, e, h, hd, _⟩ _ => ⟨p, xs, e, h, hd⟩
theorem dt_frz {K : PySem.W.Frag} {kvs : List (List Int × PyData)} : DtAt K (RDf K kvs) kvs := fun v B H M ⟨⟨p, xs, e, h, hd⟩, _⟩ ex => ⟨p, xs, e, ex p _ h, hd⟩
section
variable {K : PySem.W.Frag} {w : World} {δ : List Slot} {te ta tb tc tk : TE} {tr : TA} {tt : TT} {t u : TS} {d : Dn} {Φ : Slot → List Slot → Prop}
/-- a key tuple at a name -/
theorem ev_alK {i : Nat} {k : List Int} (hi : δ[i]? = some (.ow (RTup k))) (h : Φ (.ow (RTup k)) δ) : EvS K (tVar i) δ Φ := fun B H σ F Q S kk => by
  obtain ⟨v, M, e, hP, _⟩ := S.opn hi
  exact ⟨v, e, kk v (fun _ => False) (.ow (RTup k)) B H δ (Ex.refl _) (fun _ _ => rfl) (S.less fun a z => z.elim id False.elim) ⟨hP.1, fun _ z => z⟩ (fun _ z => z.elim) h⟩
/-- (i, j) as a key -/
theorem ev_tupK (h : EvS K ta δ fun s1 δ1 => EvS K tb δ1 fun s2 δ2 => ∃ i j : Int, s1 = .pu (.int i) ∧ s2 = .pu (.int j) ∧ Φ (.ow (RTup [i, j])) δ2) : EvS K (tTup (tCons ta (tCons tb tNil))) δ Φ := fun B H σ F Q S kk =>
  h B H σ F _ S fun v1 M1 s1 B1 H1 δ1 e1 f1 S1 w1 n1 p1 => p1 B1 H1 σ F _ (S1.less fun a z => .inl z) fun v2 M2 s2 B2 H2 δ2 e2 f2 S2 w2 n2 ⟨i, j, es1, es2, q⟩ => by
    subst es1 es2
    refine ⟨by show 2 ≤ sizeLine; rw [sizeLine_eq]; decide, fun p hp => ?_⟩
    have g := Gr.new (o := .tup [v1, v2]) S2.bh hp
    have S2' : Sd K B2 H2 σ δ2 F := S2.less fun a z => .inl z
    exact kk _ (fun _ => False) (.ow (RTup [i, j])) _ _ δ2 ((e1.trans e2).trans g.b) (fun a z => by rw [ex_eq g.h (S2'.fl a z), f2 a z, f1 a z]) ((S2'.grow g).less fun a z => z.elim id False.elim) ⟨⟨p, rfl, by rw [upd_same, dp_int_inv w1.1, dp_int_inv w2.1]; rfl⟩, fun _ z => z⟩ (fun _ z => z.elim) q
theorem ev_dnewT (h : Φ (.ow (RDt K [])) δ) : EvS K tDNewT δ Φ := fun B H σ F Q S k p hp => by
  refine k (.ref p) (fun a => a = p) (.ow (RDt K [])) B _ δ (Ex.refl _) (fun a z => upd_ne fun e => S.fl a z (by rw [e]; exact hp)) (sd_own S hp) ⟨p, [], rfl, upd_same, .nil, fun _ => Iff.rfl⟩ (fun a z f => S.fl a f (by rw [z]; exact hp)) h
/-- d[k] -/
theorem ev_tget {j : Nat} (h0 : ∃ R kvs, δ[j]? = some (.ow R) ∧ DtAt K R kvs) (h : EvS K tk δ fun s δ2 => ∃ R kvs k x, δ2[j]? = some (.ow R) ∧ DtAt K R kvs ∧ s = .ow (RTup k) ∧ lookT kvs k = some x ∧ Φ (.pu x) δ2) : EvS K (tDGet (tVar j) tk) δ Φ := fun B H σ F Q S kk => by
  obtain ⟨R0, kvs0, hj0, hd0⟩ := h0
  obtain ⟨v0, M0, ev0, hP0, _⟩ := S.opn hj0
  refine ⟨v0, ev0, h B H σ F _ S fun v M s B2 H2 δ2 e f S2 wk n ⟨R, kvs, k, x, hj, hd, es, hl, q⟩ => ?_⟩
  subst es
  obtain ⟨⟨b, rfl, hb⟩, hM⟩ := wk
  obtain ⟨v1, M1, ev1, hP1, _⟩ := S2.opn hj
  rw [ev0] at ev1
  cases ev1
  obtain ⟨p, xs, rfl, hp, ha⟩ := hd _ _ _ _ hP1 S2.bh
  rcases kta_look (k := k) ha with ⟨a, c⟩ | ⟨y, u, a, c, hy⟩
  · rw [hl] at a; cases a
  · rw [hl] at a
    cases a
    refine ⟨p, u, rfl, by rw [← c]; exact DGet.t hp (by rw [ikey_kV]; exact S2.bh b _ hb), kk u (fun _ => False) (.pu x) B2 H2 δ2 e f (S2.less fun a z => .inl (z.elim id False.elim)) ⟨hy, fun _ z => z⟩ (fun _ z => z.elim) q⟩
/-- k in d -/
theorem ev_tin {j : Nat} (h : EvS K tk δ fun s δ2 => ∃ R kvs k, δ2[j]? = some (.ow R) ∧ DtAt K R kvs ∧ s = .ow (RTup k) ∧ Φ (.pu (.bool (lookT kvs k).isSome)) δ2) : EvS K (tDIn tk (tVar j)) δ Φ := fun B H σ F Q S kk =>
  h B H σ F _ S fun v M s B2 H2 δ2 e f S2 wk n ⟨R, kvs, k, hj, hd, es, q⟩ => by
    subst es
    obtain ⟨⟨b, rfl, hb⟩, hM⟩ := wk
    obtain ⟨v1, M1, ev1, hP1, _⟩ := S2.opn hj
    obtain ⟨p, xs, rfl, hp, ha⟩ := hd _ _ _ _ hP1 S2.bh
    refine ⟨_, ev1, p, valV xs (ikey k), rfl, DGet.t hp (by rw [ikey_kV]; exact S2.bh b _ hb), ?_⟩
    have e2 : (valV xs (ikey k)).isSome = (lookT kvs k).isSome := by
      rcases kta_look (k := k) ha with ⟨a, c⟩ | ⟨_, _, a, c, _⟩ <;> rw [a, c] <;> rfl
    rw [e2]
    exact kk _ (fun _ => False) (.pu (.bool _)) B2 H2 δ2 e f (S2.less fun a z => .inl (z.elim id False.elim)) ⟨.bl _, fun _ z => z⟩ (fun _ z => z.elim) q
/-- d.get(k, x) -/
theorem ev_tget2 {j : Nat} {tx : TE} (h0 : ∃ R kvs, δ[j]? = some (.ow R) ∧ DtAt K R kvs) (h : EvS K tk δ fun s δ2 => ∃ k, s = .ow (RTup k) ∧ EvD K tx δ2 fun x δ3 => ∃ R kvs, δ3[j]? = some (.ow R) ∧ DtAt K R kvs ∧ Φ (.pu ((lookT kvs k).getD x)) δ3) : EvS K (tDGet2 (tVar j) tk tx) δ Φ := fun B H σ F Q S kk => by
  obtain ⟨R0, kvs0, hj0, hd0⟩ := h0
  obtain ⟨v0, M0, ev0, hP0, _⟩ := S.opn hj0
  obtain ⟨p0, xs0, rfl, hp0, _⟩ := hd0 _ _ _ _ hP0 S.bh
  refine ⟨_, ev0, p0, rfl, .inr ⟨xs0, .inl hp0⟩, h B H σ F _ S fun v M s B2 H2 δ2 e f S2 wk n ⟨k, es, p⟩ => ?_⟩
  subst es
  obtain ⟨⟨b, rfl, hb⟩, hM⟩ := wk
  refine p B2 H2 σ F _ (S2.less fun a z => .inl z) fun y x B3 H3 δ3 e3 f3 S3 hx ⟨R, kvs, hj, hd, q⟩ => ?_
  obtain ⟨v1, M1, ev1, hP1, _⟩ := S3.opn hj
  rw [ev0] at ev1
  cases ev1
  obtain ⟨p1, xs, e1, hp, ha⟩ := hd _ _ _ _ hP1 S3.bh
  cases e1
  refine ⟨valV xs (ikey k), DGet.t hp (by rw [ikey_kV]; exact S3.bh b _ (e3 b _ hb)), ?_⟩
  have key : Dp K B3 ((valV xs (ikey k)).getD y) ((lookT kvs k).getD x) := by
    rcases kta_look (k := k) ha with ⟨a, c⟩ | ⟨z, u, a, c, hz⟩
    · rw [a, c]; exact hx
    · rw [a, c]; exact hz
  exact kk _ (fun _ => False) (.pu _) B3 H3 δ3 (e.trans e3) (fun a z => (f3 a z).trans (f a z)) (S3.less fun a z => z.elim id False.elim) ⟨key, fun _ z => z⟩ (fun _ z => z.elim) q
/-- d[k] = e -/
theorem xs_tput {j : Nat} (h : EvD K te δ fun x δ1 => ∃ kvs0, δ1[j]? = some (.ow (RDt K kvs0)) ∧ EvS K tk δ1 fun s δ2 => ∃ (k : List Int) (kvs : List (List Int × PyData)), s = .ow (RTup k) ∧ δ2[j]? = some (.ow (RDt K kvs)) ∧ kvs.length < 100000 ∧ d.nx (δ2.set j (.ow (RDt K (storeT kvs k x))))) : ExS K (sDPut (tVar j) tk te) d δ := fun B H σ F D S L =>
  h B H σ F _ S fun v x B1 H1 δ1 e1 f1 S1 hd ⟨kvs0, h0, p⟩ => by
    obtain ⟨v0, M0, ev0, ⟨p0, xs0, rfl, _⟩, _⟩ := S1.opn h0
    refine ⟨_, ev0, p B1 H1 σ F _ S1 fun u M s B2 H2 δ2 e2 f2 S2 wk n2 ⟨k, kvs, es, hj, hl, q⟩ => ?_⟩
    subst es
    obtain ⟨⟨b, rfl, hb⟩, hMk⟩ := wk
    have S2' : Sd K B2 H2 σ δ2 F := S2.less fun a z => .inl z
    obtain ⟨vv, MM, ev, ⟨pp, xs, rfl, hp, ha, hM⟩, hbM, hF, op⟩ := S2'.opn hj
    rw [ev0] at ev
    cases ev
    have hbp : B2 p0 = none := hbM p0 ((hM p0).mpr rfl)
    refine ⟨p0, _, rfl, DPut.t hp (by rw [ikey_kV]; exact S2.bh b _ hb) (Evl.sz_lt (by rw [kta_len ha]; exact hl)), ?_⟩
    have q2 := op B2 (upd H2 p0 (.dT (putK xs (ikey k) v))) (some (.ref p0)) (.ow (RDt K (storeT kvs k x))) (fun a => a = p0) (Ex.refl _) (fun a u ha' => by
      rw [upd_ne (fun e => by rw [e, hbp] at ha'; cases ha')]
      exact S2'.bh a u ha') (fun a o ha' nm => by rw [upd_ne (fun e => nm ((hM a).mpr e))]; exact ha') (fun _ _ z => .inl z)
      ⟨_, rfl, ⟨p0, _, rfl, upd_same, kta_put (dp_mono e2 _ _ hd) ha, fun _ => Iff.rfl⟩, fun a z => by rw [z]; exact hbp⟩ (fun a z => .inl ((hM a).mpr z))
    rw [set_self ev0] at q2
    exact L.nx B2 _ σ _ (e1.trans e2) (fun a z => by rw [upd_ne (fun e => hF a ((hM a).mpr e) z), f2 a z, f1 a z]) q2 q
/-- max of a list of data -/
theorem ev_maxD (h : EvS K ta δ fun s δ1 => ∃ d ds, den K δ1 s (.list (d :: ds)) ∧ PySem.W.AlikeAll (d :: ds) ∧ PyData.depthAll (d :: ds) ≤ 60 ∧ Φ (.pu (PySem.W.maxD d ds)) δ1) : EvS K (tCB (Rk.rMaxD K) (tCons ta tNil)) δ Φ :=
  ev_cb1P (h.imp fun s δ1 ⟨d, ds, hd, al, dep, q⟩ => ⟨_, _, hd, fun B H u Q e dr k => by
    obtain ⟨p, xs, rfl, hs, ha⟩ := dr.lst e
    refine ⟨p, xs, d, ds, rfl, hs, dpa_mono e _ _ ha, al, dep, fun i y hy hm => ?_⟩
    obtain ⟨y2, hy2, hd2⟩ := dpa_get ha hm
    rw [hy] at hy2
    cases hy2
    exact k y B H (Gr.refl e) hd2, q⟩)
/-- for x in range(a, 0, -1) -/
theorem xs_forDown {j : Nat} (h : EvDs K tr δ fun ds δ1 => ∃ n : Nat, ds = [.int (n : Int), .int 0, .int (-1)] ∧ n ≤ 1000000 ∧ j < δ1.length ∧ ∃ Pv : Nat → List Slot → Prop, Pv 0 δ1 ∧ (∀ (i : Nat) δ', i < n → Pv i δ' → Turn1 K (gName j) t d (.int ((n : Int) - (i : Int))) (Pv (i + 1)) δ') ∧ ∀ δ', Pv n δ' → d.nx δ') : ExS K (tFor (iRng3 tr) (gName j) t) d δ := fun B H σ F D S L =>
  h B H σ F _ S fun vs ds B2 H2 δ1 e f S2 ha ⟨n, ed, hn, hj, Pv, h0, hs, hd⟩ => by
    subst ed
    cases ha with
    | cons a1 t1 =>
    cases t1 with
    | cons a2 t2 =>
    cases t2 with
    | cons a3 t3 =>
    cases t3
    have rg := RgC.neg (i := (n : Int)) (j := 0) (by omega) (by omega) (by omega) (by omega)
    rw [show ((n : Int) - 0).toNat = n by omega] at rg
    refine ⟨n, 0, -1, n, by rw [dp_int_inv a1, dp_int_inv a2, dp_int_inv a3], rg, ?_⟩
    refine for_core (n := n) (item := fun i => .int ((n : Int) - (i : Int))) Pv S2 F (fun a z => z) (L.step e f) h0 (fun i hi B' H' σ' δ' e' f' S' p => ⟨hi, fun x H3 hy => ?_⟩) (fun B' H' σ' δ' e' f' S' p => by exact Nat.le_refl _) hs hd
    obtain ⟨e1, e2⟩ := hy
    subst e1
    refine ⟨B', Gr.refl S'.bh, ?_⟩
    rw [e2, show (n : Int) + (i : Int) * -1 = (n : Int) - (i : Int) by omega]
    exact .int _
/-- (x, a new list) -/
theorem ev_tupO (h : EvD K ta δ fun x δ1 => EvS K tb δ1 fun s δ2 => ∃ ds, s = .ow (RL K ds) ∧ ∀ t l, Φ (.ow (RH K t [(t, .tup [.d x, .r l]), (l, .lst (ds.map .d))])) δ2) : EvS K (tTup (tCons ta (tCons tb tNil))) δ Φ := fun B H σ F Q S kk =>
  h B H σ F _ S fun v1 x B1 H1 δ1 e1 f1 S1 hd p1 => p1 B1 H1 σ F _ S1 fun v2 M2 s2 B2 H2 δ2 e2 f2 S2 w2 n2 ⟨ds, es, q⟩ => by
    subst es
    obtain ⟨l, xs, rfl, hl, ha, hM⟩ := w2
    refine ⟨by show 2 ≤ sizeLine; rw [sizeLine_eq]; decide, fun p hp => ?_⟩
    have S3 := sd_own (o := .tup [v1, .ref l]) S2 hp
    have nlp : l ≠ p := fun e => by rw [e, hp] at hl; cases hl
    have nF : ∀ c, F c → c ≠ p := fun c z e => S2.fl c (.inl z) (by rw [e]; exact hp)
    refine kk (.ref p) (fun c => c = p ∨ c = l) (.ow (RH K p _)) B2 _ δ2 (e1.trans e2) (fun c z => by rw [upd_ne (nF c z), f2 c z, f1 c z]) (S3.less fun c z => ?_) ⟨rfl, fun y hy => ?_, ?_, fun c => ?_⟩ (fun c z hf => ?_) (q p l)
    · rcases z with z | z | z
      · exact .inl (.inl z)
      · exact .inr z
      · exact .inl (.inr ((hM c).mpr z))
    · rcases List.mem_cons.mp hy with rfl | hy
      · exact ⟨_, upd_same, .cons (dp_mono e2 _ _ hd) (.cons rfl .nil)⟩
      · rw [List.mem_singleton.mp hy]
        exact ⟨xs, by rw [upd_ne nlp]; exact hl, cva_data ha⟩
    · show [p, l].Nodup
      simp only [List.nodup_cons, List.mem_cons, List.not_mem_nil, or_false, not_false_eq_true, List.nodup_nil, and_true]
      exact fun e => nlp e.symm
    · show _ ↔ c ∈ [p, l]
      simp
    · rcases z with z | z
      · exact nF c hf z
      · exact n2 c ((hM c).mpr z) hf
end
/-! ### defs that read such a dict -/
/-- data, then a dict: data out, nothing changes -/
def spDc (K : PySem.W.Frag) (n : Nat) (pre : List PyData → List (List Int × PyData) → Prop) (T : List PyData → List (List Int × PyData) → PyData → Prop) : Sp := fun vs H Q _ =>
  ∃ (B : Hp) (as : List V) (p : Addr) (xs : List (List Key × V)) (ds : List PyData) (kvs : List (List Int × PyData)), vs = as ++ [.ref p] ∧ Ex B H ∧ DpAll K B as ds ∧ ds.length = n ∧ B p = some (.dT xs) ∧ KtAll K B xs kvs ∧ pre ds kvs ∧ ∀ v B2 H2 z, Gr B H B2 H2 → Dp K B2 v z → T ds kvs z → Q v H2
theorem spDc_len {K : PySem.W.Frag} {n : Nat} {pre : List PyData → List (List Int × PyData) → Prop} {T : List PyData → List (List Int × PyData) → PyData → Prop} {vs : List V} {H : Hp} {Q : VK} {E : XK} (h : spDc K n pre T vs H Q E) : vs.length = n + 1 := by
  obtain ⟨B, as, p, xs, ds, kvs, rfl, _, ha, hn, _⟩ := h
  rw [List.length_append, dpa_len ha, hn]
  rfl
section
variable {K : PySem.W.Frag} {B B2 : Hp} {p : Addr} {xs : List (List Key × V)}
mutual
/-- data don't lean on a dict -/
theorem dp_less (hp : B p = some (.dT xs)) (hk : ∀ a, a ≠ p → B2 a = B a) : ∀ (d : PyData) (v : V), Dp K B v d → Dp K B2 v d
  | .none, _, h => by cases h; exact .non
  | .bool b, _, h => by cases h; exact .bl b
  | .int i, _, h => by cases h; exact .int i
  | .str x, _, h => by cases h; exact .str x
  | .list ds, _, h => by
    cases h with
    | lst hs ha =>
      refine .lst ?_ (dpa_less hp hk ds _ ha)
      rcases hs with h | h
      · refine .inl ?_
        rcases h with h | ⟨o, h⟩
        · exact .inl (by rw [hk _ (fun e => by rw [e, hp] at h; cases h)]; exact h)
        · exact .inr ⟨o, by rw [hk _ (fun e => by rw [e, hp] at h; cases h)]; exact h⟩
      · exact .inr h
  | .tuple ds, _, h => by
    cases h with
    | tup hs ha =>
      refine .tup ?_ (dpa_less hp hk ds _ ha)
      rcases hs with h | h
      · refine .inl ?_
        rcases h with h | ⟨o, h⟩
        · exact .inl (by rw [hk _ (fun e => by rw [e, hp] at h; cases h)]; exact h)
        · exact .inr ⟨o, by rw [hk _ (fun e => by rw [e, hp] at h; cases h)]; exact h⟩
      · exact .inr h
  | .dict _, _, h => by cases h
theorem dpa_less (hp : B p = some (.dT xs)) (hk : ∀ a, a ≠ p → B2 a = B a) : ∀ (ds : List PyData) (vs : List V), DpAll K B vs ds → DpAll K B2 vs ds
  | [], _, h => by cases h; exact .nil
  | d :: ds, _, h => by
    cases h with
    | cons h1 h2 => exact .cons (dp_less hp hk d _ h1) (dpa_less hp hk ds _ h2)
end
end
section
variable {K : PySem.W.Frag} {w : World} {δ : List Slot} {te t1 t2 t3 : TE} {tr : TA} {t : TS} {d : Dn} {Φ : Slot → List Slot → Prop} {n : Nat} {pre : List PyData → List (List Int × PyData) → Prop} {T : List PyData → List (List Int × PyData) → PyData → Prop} {E : XK}
/-- f(x, y, z, d), d a name that owns the dict -/
theorem ev_callDc {j : Nat} (h : EvD K t1 δ fun x1 δ1 => EvD K t2 δ1 fun x2 δ2 => EvD K t3 δ2 fun x3 δ3 => ∃ kvs, δ3[j]? = some (.ow (RDt K kvs)) ∧ pre [x1, x2, x3] kvs ∧ ∀ z, T [x1, x2, x3] kvs z → Φ (.pu z) δ3) : EvS K (tCall (spDc K 3 pre T) [] E (tCons t1 (tCons t2 (tCons t3 (tCons (tVar j) tNil))))) δ Φ := fun B H σ F Q S kk =>
  h B H σ F _ S fun v1 x1 B1 H1 δ1 e1 f1 S1 d1 p1 => p1 B1 H1 σ F _ S1 fun v2 x2 B2 H2 δ2 e2 f2 S2 d2 p2 => p2 B2 H2 σ F _ S2 fun v3 x3 B3 H3 δ3 e3 f3 S3 d3 ⟨kvs, hj, hp, q⟩ => by
    obtain ⟨vv, M, ev, ⟨p, xs, rfl, hpp, hk, hM⟩, hb, hF, _⟩ := S3.opn hj
    have hbp : B3 p = none := hb p ((hM p).mpr rfl)
    have eB : Ex B3 (upd B3 p (.dT xs)) := Ex.new hbp
    have eH : Ex (upd B3 p (.dT xs)) H3 := fun a o ho => by
      by_cases e : a = p
      · subst e; rw [upd_same] at ho; cases ho; exact hpp
      · rw [upd_ne e] at ho; exact S3.bh a o ho
    refine ⟨_, ev, ?_⟩
    refine ⟨upd B3 p (.dT xs), [v1, v2, v3], p, xs, [x1, x2, x3], kvs, rfl, eH, .cons (dp_mono ((e2.trans e3).trans eB) _ _ d1) (.cons (dp_mono (e3.trans eB) _ _ d2) (.cons (dp_mono eB _ _ d3) .nil)), rfl, upd_same, kta_mono eB hk, hp, fun v B4 H4 z g hz hT => ?_⟩
    have h4p : B4 p = some (.dT xs) := g.b p _ upd_same
    let B5 : Hp := fun a => if a = p then none else B4 a
    have b5 : ∀ a, a ≠ p → B5 a = B4 a := fun a ha => if_neg ha
    have g5 : Gr B3 H3 B5 H4 := by
      refine ⟨fun a o ho => ?_, g.h, fun a o ho => ?_, fun a o ho => ?_⟩
      · have ha : a ≠ p := fun e => by rw [e, hbp] at ho; cases ho
        rw [b5 a ha]
        exact g.b a o (by rw [upd_ne ha]; exact ho)
      · by_cases ha : a = p
        · have : B5 a = none := if_pos ha
          rw [this] at ho; cases ho
        · rw [b5 a ha] at ho
          exact g.bh a o ho
      · by_cases ha : a = p
        · have : B5 a = none := if_pos ha
          rw [this] at ho; cases ho
        · rw [b5 a ha] at ho
          rcases g.nw a o ho with h | h
          · rw [upd_ne ha] at h; exact .inl h
          · exact .inr h
    exact kk v (fun _ => False) (.pu z) B5 H4 δ3 (((e1.trans e2).trans e3).trans g5.b) (fun a z => by rw [ex_eq g5.h (S3.fl a z), f3 a z, f2 a z, f1 a z]) ((S3.grow g5).less fun a z => z.elim id False.elim) ⟨dp_less h4p b5 _ _ hz, fun _ z => z⟩ (fun _ z => z.elim) (q z hT)
abbrev DnDc (T : PyData → Prop) : Dn := { nx := fun _ => T .none, rt := fun s _ => ∃ z, s = .pu z ∧ T z }
theorem body_Dc {N : List Str} {vs : List V} {H : Hp} {Q : VK} (h : spDc K n pre T vs H Q E)
    (hx : ∀ ds kvs, ds.length = n → pre ds kvs → ExS K t (DnDc (T ds kvs)) (ds.map Slot.pu ++ .ow (RDf K kvs) :: List.replicate (N.length - (n + 1)) Slot.non)) : t { nx := fun _ H' => Q .non H', rt := Q } (L2.start N vs) H := by
  obtain ⟨B, as, p, xs, ds, kvs, rfl, eB, ha, hn, hp, hk, hpre, q⟩ := h
  have hl := dpa_len ha
  have est : L2.start N (as ++ [V.ref p]) = as.map some ++ some (.ref p) :: List.replicate (N.length - (n + 1)) none := by
    unfold L2.start
    rw [List.map_append, List.append_assoc, List.length_append, hl, hn]
    rfl
  have S0 : Sd K B H (L2.start N (as ++ [V.ref p])) (ds.map Slot.pu ++ .ow (RDf K kvs) :: List.replicate (N.length - (n + 1)) Slot.non) (FrB B H) := by
    rw [est]
    refine ⟨eB, by simp [hl], fun a z => z.2, fun a z => z.1, fun _ _ => False, fun i s hs => ?_, fun _ _ _ z => z.elim, fun _ _ z => z.elim, fun _ _ z => z.elim⟩
    by_cases c1 : i < ds.length
    · rw [List.getElem?_append_left (by rw [List.length_map]; exact c1), List.getElem?_map] at hs
      cases hdi : ds[i]? with
      | none => rw [hdi] at hs; cases hs
      | some x =>
        rw [hdi] at hs
        cases hs
        obtain ⟨v, hv, hxx⟩ := dpa_get ha hdi
        rw [List.getElem?_append_left (by rw [List.length_map, hl]; exact c1), List.getElem?_map, hv]
        exact ⟨v, rfl, hxx, fun _ z => z⟩
    · rw [List.getElem?_append_right (by rw [List.length_map]; omega), List.length_map] at hs
      rw [List.getElem?_append_right (by rw [List.length_map, hl]; omega), List.length_map, hl]
      cases hz : i - ds.length with
      | zero =>
        rw [hz] at hs
        cases hs
        exact ⟨.ref p, rfl, ⟨⟨p, xs, rfl, hp, hk⟩, fun _ z => z⟩, fun _ z => z.elim⟩
      | succ m =>
        rw [hz, List.getElem?_cons_succ] at hs
        rw [List.eq_of_mem_replicate (List.mem_of_getElem? hs)]
        exact fun _ z => z
  refine hx ds kvs hn hpre B H _ (FrB B H) _ S0 ⟨fun B2 H2 σ2 δ2 e f S hT => q .non B2 H2 .none (gr_end eB e f S) .non hT, fun _ _ _ _ _ _ _ z => z.elim, fun _ _ _ _ _ _ _ z => z.elim, fun v M s B2 H2 σ2 δ2 e f S wk nF ⟨z, es, hT⟩ => ?_, fun _ _ _ _ _ _ _ _ _ _ _ z => False.elim z⟩
  subst es
  exact q v B2 H2 z (gr_end eB e f (S.less fun a z => .inl z)) wk.1 hT
theorem calDc {P : Program} {mg : Str → Option Value} {base : Heap} {x : Str} {st : Stmt} {N ps : List Str} {k : Nat} (D : Df K mg x st ps) (S : FnScope N ps (defScope st)) (hn : ps.length = n + 1)
    (hbody : ∀ (f : Addr) (cdv : Value) (A : Around) (outer : List Env) (s : Shared) (H : Hp) (E : XK), Room k (A.deeper (envOfC x (defScope st) s.heap.objs.size f cdv)) →
      ∃ t, PSs (cxOf CX0 P w K mg base N x (defScope st) f cdv A outer s H E).nox (defBody st) t ∧ ∀ ds kvs, ds.length = n → pre ds kvs → ExS K t (DnDc (T ds kvs)) (ds.map Slot.pu ++ .ow (RDf K kvs) :: List.replicate (N.length - (n + 1)) Slot.non)) : Cal P w K mg base (k + 1) x (spDc K n pre T) := by
  obtain ⟨f, fd, F, hm, hb⟩ := D.ex
  refine ⟨f, fd, ps, F.ok S (fun vs H Q E h => by rw [spDc_len h, hn]) (fun cdv A outer s H vs Q E hr h => ?_), hm, F.kp, hb⟩
  obtain ⟨t, ht, hx⟩ := hbody f cdv A outer s H E hr
  exact ⟨t, ht, body_Dc h hx⟩
end
end Dl

/-! Dl28: nests of lists that are owned as one; displays and comprehensions of them; a def that reads one. -/
namespace Dl
open PySem PySem.Spec PyProof.Rows L2
open Evl (Ex)
/-- data without lists -/
inductive NoL : PyData → Prop
  | flat {d : PyData} : flatD d = true → NoL d
  | tup {ds : List PyData} : (∀ d ∈ ds, NoL d) → NoL (.tuple ds)
inductive TrA (K : PySem.W.Frag) (B H : Hp) : List V → List PyData → (Addr → Prop) → Prop
  | nil {M : Addr → Prop} : (∀ a, ¬ M a) → TrA K B H [] [] M
  | pu {v : V} {d : PyData} {vs : List V} {ds : List PyData} {M : Addr → Prop} : Dp K B v d → NoL d → TrA K B H vs ds M → TrA K B H (v :: vs) (d :: ds) M
  | ow {a : Addr} {us : List V} {xs : List PyData} {M1 M2 M : Addr → Prop} {vs : List V} {ds : List PyData} : H a = some (.lst us) → TrA K B H us xs M1 → TrA K B H vs ds M2 → ¬ M1 a → ¬ M2 a → (∀ c, M1 c → ¬ M2 c) → (∀ c, M c ↔ c = a ∨ M1 c ∨ M2 c) → TrA K B H (.ref a :: vs) (.list xs :: ds) M
section
variable {K : PySem.W.Frag} {B H B' H' : Hp} {vs us : List V} {ds es : List PyData} {M M1 M2 : Addr → Prop}
theorem tra_mono (e : Ex B B') (h : TrA K B H vs ds M) : (∀ a, M a → H' a = H a) → TrA K B' H' vs ds M := by
  induction h with
  | nil n => exact fun _ => .nil n
  | pu hd hn _ ih => exact fun k => .pu (dp_mono e _ _ hd) hn (ih k)
  | ow ha _ _ n1 n2 nd hM ih1 ih2 => exact fun k => .ow (by rw [k _ ((hM _).mpr (.inl rfl))]; exact ha) (ih1 fun a z => k a ((hM a).mpr (.inr (.inl z)))) (ih2 fun a z => k a ((hM a).mpr (.inr (.inr z)))) n1 n2 nd hM
theorem tra_lst (h : TrA K B H vs ds M) : ∀ a, M a → ∃ us, H a = some (.lst us) := by
  induction h with
  | nil n => exact fun a z => (n a z).elim
  | pu _ _ _ ih => exact ih
  | ow ha _ _ _ _ _ hM ih1 ih2 =>
    intro c z
    rcases (hM c).mp z with rfl | z | z
    · exact ⟨_, ha⟩
    · exact ih1 c z
    · exact ih2 c z
theorem tra_len (h : TrA K B H vs ds M) : vs.length = ds.length := by
  induction h with
  | nil _ => rfl
  | pu _ _ _ ih => simp [ih]
  | ow _ _ _ _ _ _ _ _ ih => simp [ih]
theorem tra_iff (h : TrA K B H vs ds M) (e : ∀ a, M1 a ↔ M a) : TrA K B H vs ds M1 := by rwa [show M1 = M from funext fun a => propext (e a)]
theorem tra_app (h : TrA K B H vs ds M) : ∀ {M1 M2 : Addr → Prop}, TrA K B H us es M1 → (∀ a, M a → ¬ M1 a) → (∀ a, M2 a ↔ M a ∨ M1 a) → TrA K B H (vs ++ us) (ds ++ es) M2 := by
  induction h with
  | nil n => exact fun h1 _ e => tra_iff h1 fun a => by rw [e a]; exact ⟨fun z => z.elim (fun z => (n a z).elim) id, .inr⟩
  | pu hd hn _ ih => exact fun h1 nd e => .pu hd hn (ih h1 nd e)
  | @ow a us xs N1 N2 N vs ds ha t1 t2 n1 n2 nd0 hM ih1 ih2 =>
    intro M1 M2 h1 nd e
    refine .ow (M2 := fun c => N2 c ∨ M1 c) ha t1 (ih2 h1 (fun c z => nd c ((hM c).mpr (.inr (.inr z)))) fun c => Iff.rfl) n1 (fun z => z.elim n2 (nd a ((hM a).mpr (.inl rfl)))) (fun c z z2 => z2.elim (nd0 c z) (nd c ((hM c).mpr (.inr (.inl z))))) fun c => ?_
    rw [e c, hM c]
    constructor
    · rintro ((z | z | z) | z)
      · exact .inl z
      · exact .inr (.inl z)
      · exact .inr (.inr (.inl z))
      · exact .inr (.inr (.inr z))
    · rintro (z | z | z | z)
      · exact .inl (.inl z)
      · exact .inl (.inr (.inl z))
      · exact .inl (.inr (.inr z))
      · exact .inr z
/-- the nest as data, where its lists count as frozen -/
theorem tra_data (e : Ex B B') (h : TrA K B H vs ds M) : (∀ a, M a → B' a = H a) → DpAll K B' vs ds := by
  induction h with
  | nil _ => exact fun _ => .nil
  | pu hd _ _ ih => exact fun k => .cons (dp_mono e _ _ hd) (ih k)
  | ow ha _ _ _ _ _ hM ih1 ih2 => exact fun k => .cons (.lst (SqL.of (by rw [k _ ((hM _).mpr (.inl rfl))]; exact ha)) (ih1 fun a z => k a ((hM a).mpr (.inr (.inl z))))) (ih2 fun a z => k a ((hM a).mpr (.inr (.inr z))))
theorem nola : ∀ {vs : List V} {ds : List PyData}, DpAll K B vs ds → (∀ d ∈ ds, ∀ v, Dp K B v d → Dp K B' v d) → DpAll K B' vs ds
  | _, _, .nil, _ => .nil
  | _, _, .cons h1 h2, ih => .cons (ih _ (List.mem_cons_self ..) _ h1) (nola h2 fun d hd => ih d (List.mem_cons_of_mem _ hd))
theorem nol_low (k : ∀ a, B' a = B a ∨ ∃ us, B a = some (.lst us)) {d : PyData} (h : NoL d) : ∀ v, Dp K B v d → Dp K B' v d := by
  induction h with
  | flat f => exact fun v hd => dp_any f hd
  | @tup ds _ ih =>
    intro v hd
    cases hd with
    | @tup p xs _ hs ha =>
      have hB : ∀ o, B p = some o → (∀ us, o ≠ .lst us) → B' p = some o := fun o ho n => by
        rcases k p with z | ⟨us, z⟩
        · rw [z]; exact ho
        · rw [ho] at z; cases z; exact absurd rfl (n us)
      refine .tup (xs := xs) ?_ ?_
      · rcases hs with h | h
        · refine .inl ?_
          rcases h with h | ⟨o, h⟩
          · exact .inl (hB _ h fun us e => nomatch e)
          · exact .inr ⟨o, hB _ h fun us e => nomatch e⟩
        · exact .inr h
      · exact nola ha ih
theorem tra_low (k : ∀ a, B' a = B a ∨ ∃ us, B a = some (.lst us)) (h : TrA K B H vs ds M) : TrA K B' H vs ds M := by
  induction h with
  | nil n => exact .nil n
  | pu hd hn _ ih => exact .pu (nol_low k hn _ hd) hn ih
  | ow ha _ _ n1 n2 nd hM ih1 ih2 => exact .ow ha ih1 ih2 n1 n2 nd hM
theorem tra_flat : ∀ {vs : List V} {ds : List PyData}, DpAll K B vs ds → (∀ d ∈ ds, NoL d) → (∀ a, ¬ M a) → TrA K B H vs ds M
  | _, _, .nil, _, n => .nil n
  | _, _, .cons h1 h2, hn, n => .pu h1 (hn _ (List.mem_cons_self ..)) (tra_flat h2 (fun d hd => hn d (List.mem_cons_of_mem _ hd)) n)
end
/-- a list, in it lists, all owned -/
def RTr (K : PySem.W.Frag) (ds : List PyData) : Res where
  P v B H M := ∃ a vs M1, v = .ref a ∧ H a = some (.lst vs) ∧ TrA K B H vs ds M1 ∧ ¬ M1 a ∧ ∀ c, M c ↔ c = a ∨ M1 c
  loc := by
    rintro v B H B' H' M ⟨a, vs, M1, rfl, ha, ht, n, hM⟩ e k
    exact ⟨a, vs, M1, rfl, by rw [k a ((hM a).mpr (.inl rfl))]; exact ha, tra_mono e ht fun c z => k c ((hM c).mpr (.inr z)), n, hM⟩
  live := by
    rintro v B H M ⟨a, vs, M1, rfl, ha, ht, n, hM⟩ c hc
    rcases (hM c).mp hc with rfl | z
    · rw [ha]; exact fun z => nomatch z
    · obtain ⟨us, e⟩ := tra_lst ht c z
      rw [e]; exact fun z => nomatch z
section
variable {K : PySem.W.Frag} {w : World} {δ : List Slot} {te ta tb tc : TE} {tr : TA} {tt : TT} {t u : TS} {d : Dn} {Φ : Slot → List Slot → Prop} {ds : List PyData}
theorem rtr_of_rl {v : V} {B H : Hp} {M : Addr → Prop} (hn : ∀ d ∈ ds, NoL d) (h : (RL K ds).P v B H M) : (RTr K ds).P v B H M := by
  obtain ⟨p, xs, rfl, hp, hd, hM⟩ := h
  exact ⟨p, xs, fun _ => False, rfl, hp, tra_flat hd hn fun _ z => z, fun z => z, fun c => by rw [hM c]; exact ⟨.inl, fun z => z.elim id False.elim⟩⟩
theorem deepT : DeepD K (RTr K ds) (.list ds) := fun v B H M ⟨a, vs, M1, e, ha, ht, n, hM⟩ ex => by
  subst e
  exact .lst (SqL.of ha) (tra_data ex ht fun _ _ => rfl)
/-- a slot holds a nest, or data without lists -/
inductive SlT (K : PySem.W.Frag) : Slot → PyData → Prop
  | pu {d : PyData} : NoL d → SlT K (.pu d) d
  | tr {ds : List PyData} : SlT K (.ow (RTr K ds)) (.list ds)
  | rl {ds : List PyData} : (∀ d ∈ ds, NoL d) → SlT K (.ow (RL K ds)) (.list ds)
inductive SlTs (K : PySem.W.Frag) : List Slot → List PyData → Prop
  | nil : SlTs K [] []
  | cons {s : Slot} {x : PyData} {ss : List Slot} {xs : List PyData} : SlT K s x → SlTs K ss xs → SlTs K (s :: ss) (x :: xs)
theorem slt_tra {σ : L2.St} {B H : Hp} {v : V} {s : Slot} {x : PyData} {M : Addr → Prop} (h : VOk K σ δ B H v M s) (hs : SlT K s x) : TrA K B H [v] [x] M := by
  have key : ∀ ds, (RTr K ds).P v B H M → TrA K B H [v] [.list ds] M := fun ds ⟨a, vs, M1, e, ha, ht, n, hM⟩ => by
    subst e
    exact .ow (M2 := fun _ => False) ha ht (.nil fun _ z => z) n (fun z => z) (fun _ _ z => z) fun c => by rw [hM c]; exact ⟨fun z => z.elim .inl fun z => .inr (.inl z), fun z => z.elim .inl fun z => z.elim .inr False.elim⟩
  cases hs with
  | pu hn => exact .pu h.1 hn (.nil h.2)
  | tr => exact key _ h
  | rl hn => exact key _ (rtr_of_rl hn h)
theorem aok_tra {σ : L2.St} {B H : Hp} : ∀ {vs : List V} {ss : List Slot} {xs : List PyData} {M : Addr → Prop}, AOk K σ δ B H vs ss M → SlTs K ss xs → TrA K B H vs xs M
  | _, _, _, _, .nil, h => by cases h; exact .nil fun _ z => z
  | _, _, _, _, .cons h1 h2 h3, h => by
    cases h with
    | cons a b => exact tra_app (vs := [_]) (ds := [_]) (slt_tra h1 a) (aok_tra h3 b) h2 fun _ => Iff.rfl
theorem ev_asT (h : EvS K te δ fun s δ1 => ∃ ds, SlT K s (.list ds) ∧ Φ (.ow (RTr K ds)) δ1) : EvS K te δ Φ := fun B H σ F Q S k =>
  h B H σ F Q S fun v M s B2 H2 δ1 e f S2 w n ⟨ds, hs, q⟩ => by
    refine k v M (.ow (RTr K ds)) B2 H2 δ1 e f S2 ?_ n q
    cases hs with
    | pu hn => cases hn with | flat f => cases f
    | tr => exact w
    | rl hn => exact rtr_of_rl hn w
/-- [a, b, ..] of nests and data -/
theorem ev_lstT (h : EvA K tr δ fun ss δ1 => ∃ xs, SlTs K ss xs ∧ xs.length ≤ 100000 ∧ Φ (.ow (RTr K xs)) δ1) : EvS K (tLst tr) δ Φ := fun B H σ F Q S k =>
  h B H σ F _ S fun vs M ss B2 H2 δ1 e f S2 w n ⟨xs, hs, hl, q⟩ => by
    have ht := aok_tra w hs
    refine ⟨Evl.sz_of (by rw [tra_len ht]; exact hl), fun D hD => ?_⟩
    have nD : ∀ a, M a → a ≠ D := fun a ha z => S2.fl a (.inr ha) (by rw [z]; exact hD)
    have S3 := sd_own (o := .lst vs) S2 hD
    refine k (.ref D) (fun a => M a ∨ a = D) (.ow (RTr K xs)) B2 _ δ1 e (fun a z => ?_) (S3.less fun a z => ?_) ⟨D, vs, M, rfl, upd_same, tra_mono (Ex.refl _) ht fun a z => upd_ne (nD a z), fun z => nD D z rfl, fun c => Or.comm⟩ (fun a z hf => ?_) q
    · rw [upd_ne (fun z2 => S2.fl a (.inl z) (by rw [z2]; exact hD)), f a z]
    · rcases z with z | z | z
      · exact .inl (.inl z)
      · exact .inl (.inr z)
      · exact .inr z
    · rcases z with z | z
      · exact n a z hf
      · exact S2.fl a (.inl hf) (by rw [z]; exact hD)
/-! ### comprehensions -/
def TurnT (K : PySem.W.Frag) (g : TG) (te : TE) (vs : List Nat) (δ : List Slot) (x : PyData) (acc : List PyData) (Pn : List PyData → Prop) : Prop :=
  ∃ as, TgS K g x as ∧ (∀ p ∈ as, p.1 < δ.length ∧ p.1 ∈ vs) ∧ EvS K te (setD (wipeD δ vs) as) fun s δ2 => (∀ i, i ∉ vs → δ2[i]? = δ[i]?) ∧ ∃ y, SlT K s y ∧ acc.length < 100000 ∧ Pn (acc ++ [y])
theorem lc_coreT {n : Nat} {item : Nat → PyData} {g : TG} {J : It} {vs : List Nat} {B H : Hp} {σ : L2.St} {F F0 : Addr → Prop} {Q : VK} (Pv : Nat → List PyData → Prop) (S : Sd K B H σ δ F) (hF0 : ∀ a, F0 a → F a) (hv : ∀ i ∈ vs, ∀ s, δ[i]? = some s → s = .non ∨ ∃ d, s = .pu d)
    (hgo : ∀ i, i < n → ∀ B' H', Ex B B' → (∀ a, F a → H' a = H a) → Sd K B' H' σ δ F → J.go i H' ∧ ∀ x H2, J.yld i H' x H2 → ∃ B2, Gr B' H' B2 H2 ∧ Dp K B2 x (item i))
    (hst : ∀ B' H', Ex B B' → (∀ a, F a → H' a = H a) → Sd K B' H' σ δ F → J.stop n H')
    (h0 : Pv 0 []) (hs : ∀ i acc, i < n → Pv i acc → TurnT K g te vs δ (item i) acc (Pv (i + 1)))
    (hd : ∀ acc v M B2 H2, Pv n acc → Ex B B2 → (∀ a, F a → H2 a = H a) → Sd K B2 H2 σ δ (fun a => F0 a ∨ M a) → (RTr K acc).P v B2 H2 M → (∀ a, M a → ¬ F a) → Q v H2) :
    ∀ D, H D = none → ∃ W : Nat → Nat → Hp → Prop, (∃ m, W 0 m (upd H D (.lst []))) ∧ ∀ i m H, W i m H →
  (J.stop i H ∧ Q (.ref D) H) ∨ (J.go i H ∧ ∃ Nx : Hp → Prop, (∀ H', Nx H' → ∃ m', m' < m ∧ W (i + 1) m' H') ∧ ∀ x H', J.yld i H x H' → g x (wipe σ vs) H' fun σ2 H2 => wipe σ2 vs = wipe σ vs ∧ tYes σ2 H2 fun b H3 =>
    if b = true then te σ2 H3 fun y H4 => ∃ acc, H4 D = some (.lst acc) ∧ acc.length < sizeLine ∧ Nx (upd H4 D (.lst (acc ++ [y]))) else Nx H3) := by
  intro D hD
  let Inv := fun (i : Nat) (H' : Hp) => ∃ B' xs acc M1, Ex B B' ∧ (∀ a, F a → H' a = H a) ∧ Sd K B' H' σ δ (fun a => F a ∨ (a = D ∨ M1 a)) ∧ H' D = some (.lst xs) ∧ TrA K B' H' xs acc M1 ∧ ¬ M1 D ∧ (∀ a, M1 a → ¬ F a) ∧ Pv i acc
  have nF : ¬ F D := fun z => S.fl D z hD
  refine ⟨fun i m H' => m = n - i ∧ i ≤ n ∧ Inv i H', ⟨n, rfl, Nat.zero_le _, B, [], [], fun _ => False, Ex.refl _, fun a z => upd_ne fun e => nF (by rw [← e]; exact z), (sd_own S hD).less fun a z => z.elim .inl fun z => .inr (z.elim id False.elim), upd_same, .nil fun _ z => z, fun z => z, fun _ z => z.elim, h0⟩, ?_⟩
  rintro i m H' ⟨rfl, hi, B', xs, acc, M1, e, f, S', hx, ha, nM1, nMF, p⟩
  by_cases hlt : i < n
  · obtain ⟨g1, g2⟩ := hgo i hlt B' H' e f (S'.less fun a z => .inl z)
    refine .inr ⟨g1, Inv (i + 1), fun H2 q => ⟨n - (i + 1), by omega, rfl, hlt, q⟩, fun x H2 hy => ?_⟩
    obtain ⟨B2, gr, hxd⟩ := g2 x H2 hy
    obtain ⟨as, hg, hl, hb⟩ := hs i acc hlt p
    have S2 := S'.grow gr
    have f2 : ∀ a, F a → H2 a = H a := fun a z => (ex_eq gr.h (S'.fl a (.inl z))).trans (f a z)
    have hx2 : H2 D = some (.lst xs) := gr.h _ _ hx
    refine hg B2 H2 x (wipe σ vs) _ S2.bh hxd fun us hu => ?_
    have agree : ∀ j, j ∉ vs → (setV (wipe σ vs) (as.map (·.1)) us)[j]? = σ[j]? := fun j hj => by
      rw [setV_out (fun z => by
        obtain ⟨q, hq, e1⟩ := List.mem_map.mp z
        exact hj (e1 ▸ (hl q hq).2)), wipe_out hj]
    refine ⟨?_, ?_⟩
    · exact wipe_ext (by rw [setV_len, wipe_length]) agree
    · have S3 : Sd K B2 H2 (setV (wipe σ vs) (as.map (·.1)) us) (setD (wipeD δ vs) as) (fun a => F a ∨ (a = D ∨ M1 a)) := (S2.wiped vs).puts hu fun q hq => by rw [wipeD_len]; exact (hl q hq).1
      show (if true = true then te (setV (wipe σ vs) (as.map (·.1)) us) H2 (fun y H4 => ∃ acc, H4 D = some (HO.lst acc) ∧ acc.length < sizeLine ∧ Inv (i + 1) (upd H4 D (HO.lst (acc ++ [y])))) else Inv (i + 1) H2)
      rw [if_pos rfl]
      refine hb B2 H2 _ _ _ S3 fun y My s B4 H4 δ4 e4 f4 S5 hyd nMy ⟨ag4, yd, hsl, hlen, pn⟩ => ?_
      have hx4 : H4 D = some (.lst xs) := by rw [f4 D (.inr (.inl rfl))]; exact hx2
      have eB : Ex B B4 := (e.trans gr.b).trans e4
      have eB' : Ex B' B4 := gr.b.trans e4
      have nDy : ∀ c, My c → c ≠ D := fun c z e => nMy c z (.inr (.inl e))
      have nDm : ∀ c, M1 c → c ≠ D := fun c z e => nM1 (e ▸ z)
      have hM4 : ∀ c, M1 c → H4 c = H' c := fun c z => by rw [f4 c (.inr (.inr z))]; exact ex_eq gr.h (S'.fl c (.inr (.inr z)))
      have T1 : TrA K B4 (upd H4 D (.lst (xs ++ [y]))) xs acc M1 := tra_mono eB' ha fun c z => by rw [upd_ne (nDm c z)]; exact hM4 c z
      have T2 : TrA K B4 (upd H4 D (.lst (xs ++ [y]))) [y] [yd] My := tra_mono (Ex.refl _) (slt_tra hyd hsl) fun c z => upd_ne (nDy c z)
      refine ⟨xs, hx4, Evl.sz_lt (by rw [tra_len ha]; exact hlen), B4, xs ++ [y], acc ++ [yd], fun c => M1 c ∨ My c, eB, fun a z => ?_, ?_, upd_same, tra_app T1 T2 (fun c z z2 => nMy c z2 (.inr (.inr z))) fun _ => Iff.rfl, fun z => z.elim nM1 fun z => nDy D z rfl, fun c z => z.elim (nMF c) fun z hf => nMy c z (.inl hf), pn⟩
      · rw [upd_ne (fun z2 => nF (by rw [← z2]; exact z)), f4 a (.inl z), f2 a z]
      · have S6 : Sd K B4 H4 σ δ (fun a => (F a ∨ (a = D ∨ M1 a)) ∨ My a) := S'.unwipe (vs := vs) S5 eB' agree ag4 hv
        obtain ⟨ms, h1, h2, h3, h4⟩ := S6.sl
        have hbD : B4 D = none := S6.fb D (.inl (.inr (.inl rfl)))
        have ex : Ex B4 (upd H4 D (.lst (xs ++ [y]))) := fun a u ha' => by
          rw [upd_ne (fun z => by rw [z, hbD] at ha'; cases ha')]
          exact S6.bh a u ha'
        have re : ∀ c, (F c ∨ (c = D ∨ (M1 c ∨ My c))) → ((F c ∨ (c = D ∨ M1 c)) ∨ My c) := fun c z => by
          rcases z with z | z | z | z
          · exact .inl (.inl z)
          · exact .inl (.inr (.inl z))
          · exact .inl (.inr (.inr z))
          · exact .inr z
        refine ⟨ex, S6.len, fun c z => S6.fb c (re c z), fun a z => ?_, ms, fun j s hs => ?_, h2, fun k c q z => h3 k c q (re c z), h4⟩
        · by_cases e5 : a = D
          · rw [e5, upd_same]; exact fun z => nomatch z
          · rw [upd_ne e5]; exact S6.fl a (re a z)
        · have q := h1 j s hs
          cases s with
          | non => exact q
          | pu x => exact q
          | ow R =>
            obtain ⟨v, ev, hP, hb'⟩ := q
            exact ⟨v, ev, R.loc hP (Ex.refl _) fun a z => upd_ne fun e5 => h3 j a z (.inl (.inr (.inl e5))), hb'⟩
          | al _ => exact q
  · have e1 : i = n := by omega
    subst e1
    exact .inl ⟨hst B' H' e f (S'.less fun a z => .inl z), hd acc (.ref D) (fun a => a = D ∨ M1 a) B' H' p e f (S'.less fun a z => z.elim (fun z => .inl (hF0 a z)) .inr) ⟨D, xs, M1, rfl, hx, ha, nM1, fun _ => Iff.rfl⟩ (fun a z z2 => z.elim (fun e => nF (e ▸ z2)) fun z => nMF a z z2)⟩
theorem ev_lcTR {g : TG} {vs : List Nat} (h : EvS K ta δ fun s δ1 => ∃ k : Int, s = .pu (.int k) ∧ -(2 ^ 62) ≤ k ∧ k < 2 ^ 62 ∧ Wip δ1 vs ∧ ∃ Pv : Nat → List PyData → Prop, Pv 0 [] ∧ (∀ (i : Nat) acc, i < k.toNat → Pv i acc → TurnT K g te vs δ1 (.int (i : Int)) acc (Pv (i + 1))) ∧ ∀ acc, Pv k.toNat acc → Φ (.ow (RTr K acc)) δ1) : EvS K (tLc (iRng1 (tCons ta tNil)) g tYes te vs) δ Φ := fun B H σ F Q S kk =>
  h B H σ F _ S fun v M s B2 H2 δ1 e f S2 w n ⟨k, es, hk1, hk2, hw, Pv, h0, hs, hd⟩ => by
    subst es
    have S2' : Sd K B2 H2 σ δ1 F := S2.less fun a z => .inl z
    refine ⟨k, by rw [dp_int_inv w.1], hk1, hk2, ?_⟩
    refine lc_coreT (n := k.toNat) (item := fun i => .int (i : Int)) Pv S2' (F0 := F) (fun a z => z) hw (fun i hi B' H' e' f' S' => ⟨hi, fun x H3 hy => ?_⟩) (fun B' H' e' f' S' => by exact Nat.le_refl _) h0 hs (fun acc v M B3 H3 p e3 f3 S3 hP hM => kk v M (.ow (RTr K acc)) B3 H3 δ1 (e.trans e3) (fun a z => (f3 a z).trans (f a z)) S3 hP hM (hd acc p))
    obtain ⟨e1, e2⟩ := hy
    subst e1
    refine ⟨B', Gr.refl S'.bh, ?_⟩
    rw [e2, Int.zero_add]
    exact .int _
theorem ev_lcTL {g : TG} {vs : List Nat} (h : EvS K ta δ fun s δ1 => ∃ ds, den K δ1 s (.list ds) ∧ Wip δ1 vs ∧ ∃ Pv : Nat → List PyData → Prop, Pv 0 [] ∧ (∀ (i : Nat) y acc, ds[i]? = some y → Pv i acc → TurnT K g te vs δ1 y acc (Pv (i + 1))) ∧ ∀ acc, Pv ds.length acc → Φ (.ow (RTr K acc)) δ1) : EvS K (tLc (iList K ta) g tYes te vs) δ Φ := fun B H σ F Q S kk =>
  h B H σ F _ S fun v M s B2 H2 δ1 e f S2 w n ⟨ds, hden, hw, Pv, h0, hs, hd⟩ => by
    obtain ⟨p, xs0, rfl, hq0, ha0⟩ := (den_dr S2 w hden).lst S2.bh
    refine ⟨p, rfl, ⟨xs0, hq0⟩, ?_⟩
    have key : ∀ B' H', Ex B2 B' → (∀ a, (F a ∨ M a) → H' a = H2 a) → Sd K B' H' σ δ1 (fun a => F a ∨ M a) → ∃ xs, SqL K H' p xs ∧ DpAll K B' xs ds := fun B' H' e' f' S' => by
      have w' : VOk K σ δ1 B' H' (.ref p) M s := w.step e' fun a z => f' a (.inr z)
      obtain ⟨p', xs', e1, hq', ha'⟩ := (den_dr S' w' hden).lst S'.bh
      cases e1
      exact ⟨xs', hq', ha'⟩
    refine lc_coreT (n := ds.length) (item := fun i => ds.getD i .none) Pv S2 (F0 := F) (fun a z => .inl z) hw (fun i hi B' H' e' f' S' => ?_) (fun B' H' e' f' S' => ?_) h0 (fun i acc hi q => hs i _ acc (by rw [List.getD_eq_getElem?_getD, List.getElem?_eq_getElem hi]; rfl) q) (fun acc v M B3 H3 p e3 f3 S3 hP hM => kk v M (.ow (RTr K acc)) B3 H3 δ1 (e.trans e3) (fun a z => (f3 a (.inl z)).trans (f a z)) S3 hP (fun a z z2 => hM a z (.inl z2)) (hd acc p))
    · obtain ⟨xs, hq, ha⟩ := key B' H' e' f' S'
      obtain ⟨w2, hw2, hdw⟩ := dpa_get ha (List.getElem?_eq_getElem hi)
      refine ⟨⟨xs, w2, hq, hw2⟩, fun y H3 hy => ?_⟩
      obtain ⟨e1, e2⟩ := hy
      subst e1
      refine ⟨B', Gr.refl S'.bh, ?_⟩
      have e3 := (e2 xs hq).symm.trans hw2
      cases e3
      rw [List.getD_eq_getElem?_getD, List.getElem?_eq_getElem hi]
      exact hdw
    · obtain ⟨xs, hq, ha⟩ := key B' H' e' f' S'
      exact ⟨xs, hq, Nat.le_of_eq (dpa_len ha)⟩
/-! ### a def that reads a nest and answers with a new one -/
theorem ev_callT {pre : List PyData → Prop} {T : List PyData → Slot → Prop} {E : XK} (h : EvS K ta δ fun s δ1 => ∃ ds, SlT K s (.list ds) ∧ pre [.list ds] ∧ ∀ z, T [.list ds] z → ∃ ds2, SlT K z (.list ds2) ∧ Φ (.ow (RTr K ds2)) δ1) : EvS K (tCall (spN K 1 pre T) [] E (tCons ta tNil)) δ Φ := fun B H σ F Q S k =>
  h B H σ F _ S fun v M s B2 H2 δ1 e f S2 w n ⟨ds, hs, hp, q⟩ => by
    have hR : (RTr K ds).P v B2 H2 M := by
      cases hs with
      | pu hn => cases hn with | flat f => cases f
      | tr => exact w
      | rl hn => exact rtr_of_rl hn w
    obtain ⟨a, vs, M1, rfl, ha, ht, na, hM⟩ := hR
    have hl : ∀ c, M c → ∃ us, H2 c = some (.lst us) := fun c z => by
      rcases (hM c).mp z with rfl | z
      · exact ⟨_, ha⟩
      · exact tra_lst ht c z
    have hbM : ∀ c, M c → B2 c = none := fun c z => S2.fb c (.inr z)
    let B' : Hp := fun c => open Classical in if M c then H2 c else B2 c
    have b1 : ∀ c, M c → B' c = H2 c := fun c z => if_pos z
    have b2 : ∀ c, ¬ M c → B' c = B2 c := fun c z => if_neg z
    have eB : Ex B2 B' := fun c o ho => by
      rw [b2 c fun z => by rw [hbM c z] at ho; cases ho]
      exact ho
    have eH : Ex B' H2 := fun c o ho => by
      by_cases z : M c
      · rw [b1 c z] at ho; exact ho
      · rw [b2 c z] at ho; exact S2.bh c o ho
    show spN K 1 pre T ([.ref a] ++ []) H2 Q E
    rw [List.append_nil]
    refine ⟨B', [.list ds], eH, .cons (.lst (SqL.of (by rw [b1 a ((hM a).mpr (.inl rfl))]; exact ha)) (tra_data eB ht fun c z => b1 c ((hM c).mpr (.inr z)))) .nil, rfl, hp, fun v2 B4 H4 z Mz g hw hMz hT => ?_⟩
    obtain ⟨ds2, hz, qq⟩ := q z hT
    let B5 : Hp := fun c => open Classical in if M c then none else B4 c
    have c1 : ∀ c, M c → B5 c = none := fun c z => if_pos z
    have c2 : ∀ c, ¬ M c → B5 c = B4 c := fun c z => if_neg z
    have g5 : Gr B2 H2 B5 H4 := by
      refine ⟨fun c o ho => ?_, g.h, fun c o ho => ?_, fun c o ho => ?_⟩
      · have hc : ¬ M c := fun z => by rw [hbM c z] at ho; cases ho
        rw [c2 c hc]
        exact g.b c o (by rw [b2 c hc]; exact ho)
      · by_cases z : M c
        · rw [c1 c z] at ho; cases ho
        · rw [c2 c z] at ho; exact g.bh c o ho
      · by_cases z : M c
        · rw [c1 c z] at ho; cases ho
        · rw [c2 c z] at ho
          rcases g.nw c o ho with h | h
          · rw [b2 c z] at h; exact .inl h
          · exact .inr h
    have low : ∀ c, B5 c = B4 c ∨ ∃ us, B4 c = some (.lst us) := fun c => by
      by_cases z : M c
      · obtain ⟨us, e1⟩ := hl c z
        exact .inr ⟨us, g.b c _ (by rw [b1 c z]; exact e1)⟩
      · exact .inl (c2 c z)
    have hR2 : (RTr K ds2).P v2 B4 H4 Mz := by
      cases hz with
      | pu hn => cases hn with | flat f => cases f
      | tr => exact hw
      | rl hn => exact rtr_of_rl hn hw
    obtain ⟨a2, vs2, M2, e2, ha2, ht2, na2, hM2⟩ := hR2
    have hR3 : (RTr K ds2).P v2 B5 H4 Mz := ⟨a2, vs2, M2, e2, ha2, tra_low low ht2, na2, hM2⟩
    have S2' : Sd K B2 H2 σ δ1 F := S2.less fun c z => .inl z
    have hb5 : ∀ c, Mz c → B5 c = none := fun c z => by
      by_cases z2 : M c
      · exact c1 c z2
      · rw [c2 c z2]; exact (hMz c z).2
    exact k v2 Mz (.ow (RTr K ds2)) B5 H4 δ1 (e.trans g5.b) (fun c z => (ex_eq g5.h (S2'.fl c z)).trans (f c z)) (sd_freshM S2' g5 (fun c z => (hMz c z).1) hb5 (fun c z => (RTr K ds2).live hR3 c z)) hR3 (fun c z z2 => S2'.fl c z2 (hMz c z).1) qq
end
end Dl

/-! Dl29: a nest opened: its lists changed by a walk, its parts read. -/
namespace Dl
open PySem PySem.Spec PyProof.Rows L2
open Evl (Ex)
section
variable {K : PySem.W.Frag} {w : World} {δ : List Slot} {te ta tb tc : TE} {tr : TA} {tt : TT} {t u : TS} {d : Dn} {Φ : Slot → List Slot → Prop} {ds : List PyData}
theorem ev_alA {i : Nat} {R : Res} {a : Addr} (hi : δ[i]? = some (.ow R)) (ha : IsAt R a) (h : Φ (.ow (RRef a)) δ) : EvS K (tVar i) δ Φ := fun B H σ F Q S k => by
  obtain ⟨v, M, e, hP, _⟩ := S.opn hi
  exact ⟨v, e, k v (fun _ => False) (.ow (RRef a)) B H δ (Ex.refl _) (fun _ _ => rfl) (S.less fun a z => z.elim id False.elim) ⟨ha _ _ _ _ hP, fun _ z => z⟩ (fun _ z => z.elim) h⟩
def LstAt (R : Res) (b : Addr) : Prop := ∀ v B H M, R.P v B H M → ∃ us, H b = some (.lst us)
theorem ev_isiJ (h : EvS K ta δ fun s δ1 => ∃ (b : Addr) (i : Nat) (R : Res), s = .ow (RRef b) ∧ δ1[i]? = some (.ow R) ∧ LstAt R b ∧ Φ (.pu (.bool true)) δ1) : EvS K (tCB (rIsi K) (tCons ta (tCons (tC (.ty "list")) tNil))) δ Φ := fun B H σ F Q S k =>
  h B H σ F _ S fun v M s B1 H1 δ1 e1 f1 S1 wk n1 ⟨b, i, R, es, hi, hl, q⟩ => by
    subst es
    obtain ⟨rfl, hM⟩ := wk
    obtain ⟨v', M', ev, hP, _⟩ := S1.opn hi
    obtain ⟨us, hu⟩ := hl _ _ _ _ hP
    refine ⟨_, .ty "list", .type "list", .type "list", true, rfl, .ty "list", .base (.lst hu), kit_ty ?_, ?_⟩
    · have g := good_list (.list []) (fun _ e => nomatch e)
      rw [isi_list (x := .list []) (fun _ e => nomatch e)] at g
      exact g
    · exact k _ (fun _ => False) (.pu (.bool true)) B1 H1 δ1 e1 f1 (S1.less fun c z => .inl (z.elim id False.elim)) ⟨.bl _, fun _ z => z⟩ (fun _ z => z.elim) q
/-- lists in a list, all owned, no longer than n -/
def RJ (root : Addr) (as : List Addr) (n : Nat) : Res where
  P v _ H M := v = .ref root ∧ H root = some (.lst (as.map V.ref)) ∧ M root ∧ (∀ a ∈ as, M a ∧ a ≠ root ∧ ∃ us, H a = some (.lst us) ∧ us.length ≤ n) ∧ ∀ a, M a → H a ≠ none
  loc := by
    rintro v B H B' H' M ⟨h0, h1, h2, h3, h4⟩ e k
    refine ⟨h0, by rw [k root h2]; exact h1, h2, fun a ha => ?_, fun a z => by rw [k a z]; exact h4 a z⟩
    obtain ⟨g1, g2, us, g3⟩ := h3 a ha
    exact ⟨g1, g2, us, by rw [k a g1]; exact g3⟩
  live := fun h => h.2.2.2.2
theorem rj_at {root : Addr} {as : List Addr} {n : Nat} : IsAt (RJ root as n) root := fun _ _ _ _ h => h.1
theorem rj_shows {root : Addr} {as : List Addr} {n : Nat} : ShowsR (RJ root as n) root as := fun _ _ _ _ h => h.2.1
theorem rj_lst {root : Addr} {as : List Addr} {n : Nat} {a : Addr} (h : a ∈ as) : LstAt (RJ root as n) a := fun _ _ _ _ hP => by
  obtain ⟨_, _, us, e, _⟩ := hP.2.2.2.1 a h
  exact ⟨us, e⟩
theorem rj_put {root a : Addr} {as : List Addr} {n : Nat} (ha : a ∈ as) {v : V} {B H : Hp} {M : Addr → Prop} (h : (RJ root as n).P v B H M) {ys : List V} (hy : ys.length ≤ n + 1) : (RJ root as (n + 1)).P v B (upd H a (.lst ys)) M := by
  obtain ⟨h0, h1, h2, h3, h4⟩ := h
  have ne : a ≠ root := (h3 a ha).2.1
  refine ⟨h0, by rw [upd_ne ne.symm]; exact h1, h2, fun b hb => ?_, fun c z => ?_⟩
  · obtain ⟨g1, g2, us, g3, g4⟩ := h3 b hb
    refine ⟨g1, g2, ?_⟩
    by_cases e : b = a
    · subst e
      exact ⟨ys, upd_same, hy⟩
    · exact ⟨us, by rw [upd_ne e]; exact g3, by omega⟩
  · by_cases e : c = a
    · subst e
      rw [upd_same]; exact fun z => nomatch z
    · rw [upd_ne e]; exact h4 c z
theorem ev_appJ (h : EvS K ta δ fun s δ1 => ∃ (b : Addr) (i : Nat) (root : Addr) (as : List Addr) (n : Nat), s = .ow (RRef b) ∧ δ1[i]? = some (.ow (RJ root as n)) ∧ b ∈ as ∧ n < 100000 ∧ EvD K te δ1 fun x δ2 => δ2 = δ1 ∧ Φ (.pu .none) (δ1.set i (.ow (RJ root as (n + 1))))) : EvS K (tBM K "list" rAppend ta (tCons te tNil)) δ Φ := fun B H σ F Q S k =>
  h B H σ F _ S fun v M s B1 H1 δ1 e1 f1 S1 wk n1 ⟨b, i, root, as, n, es, hi, hb, hn, p⟩ => by
    subst es
    obtain ⟨rfl, hM⟩ := wk
    obtain ⟨v0, M0, ev0, hP0, _⟩ := S1.opn hi
    obtain ⟨_, _, us, hu, _⟩ := hP0.2.2.2.1 b hb
    refine ⟨.inl ⟨rfl, us, SqL.of hu⟩, p B1 H1 σ _ _ (S1.less fun c z => .inl z) fun y x B2 H2 δ2 e2 f2 S2 hd ⟨ed, q⟩ => ?_⟩
    subst ed
    obtain ⟨v', M', ev, hP, put⟩ := S2.putR hi
    obtain ⟨g1, _, xs, g2, g3⟩ := hP.2.2.2.1 b hb
    obtain ⟨S3, f3⟩ := put b (.lst (xs ++ [y])) (RJ root as (n + 1)) g1 (rj_put hb hP (by rw [List.length_append]; show _ + 1 ≤ _; omega))
    exact ⟨b, xs, y, rfl, rfl, g2, Evl.sz_lt (by omega), k .non (fun _ => False) (.pu .none) B2 _ _ (e1.trans e2) (fun c z => (f3 c z).trans ((f2 c z).trans (f1 c z))) (S3.less fun c z => z.elim id False.elim) ⟨.non, fun _ z => z⟩ (fun _ z => z.elim) q⟩
theorem ev_revJ (h : EvS K ta δ fun s δ1 => ∃ (b : Addr) (i : Nat) (root : Addr) (as : List Addr) (n : Nat), s = .ow (RRef b) ∧ δ1[i]? = some (.ow (RJ root as n)) ∧ b ∈ as ∧ Φ (.pu .none) (δ1.set i (.ow (RJ root as (n + 1))))) : EvS K (tBM0 K "list" rReverse ta) δ Φ := fun B H σ F Q S k =>
  h B H σ F _ S fun v M s B1 H1 δ1 e1 f1 S1 wk n1 ⟨b, i, root, as, n, es, hi, hb, q⟩ => by
    subst es
    obtain ⟨rfl, hM⟩ := wk
    have S1' : Sd K B1 H1 σ δ1 F := S1.less fun a z => .inl z
    obtain ⟨v', M', ev, hP, put⟩ := S1'.putR hi
    obtain ⟨g2, _, xs, g1, g3⟩ := hP.2.2.2.1 b hb
    obtain ⟨S3, f3⟩ := put b (.lst xs.reverse) (RJ root as (n + 1)) g2 (rj_put hb hP (by rw [List.length_reverse]; omega))
    exact ⟨.inl ⟨rfl, xs, SqL.of g1⟩, b, xs, rfl, rfl, g1, k .non (fun _ => False) (.pu .none) B1 _ _ e1 (fun c z => (f3 c z).trans (f1 c z)) (S3.less fun c z => z.elim id False.elim) ⟨.non, fun _ z => z⟩ (fun _ z => z.elim) q⟩
/-! ### opened -/
theorem tra_refs {B H : Hp} {vs : List V} {M : Addr → Prop} {n : Nat} (h : TrA K B H vs ds M) : (∀ d ∈ ds, ∃ xs : List PyData, d = .list xs ∧ xs.length ≤ n) → ∃ as : List Addr, vs = as.map V.ref ∧ as.length = ds.length ∧ ∀ a ∈ as, M a ∧ ∃ us, H a = some (.lst us) ∧ us.length ≤ n := by
  induction h with
  | nil _ => exact fun _ => ⟨[], rfl, rfl, fun _ h => nomatch h⟩
  | pu _ hn _ _ =>
    intro hd
    obtain ⟨xs, rfl, _⟩ := hd _ (List.mem_cons_self ..)
    cases hn with | flat f => cases f
  | ow ha t1 _ _ _ _ hM _ ih =>
    intro hd
    obtain ⟨as, rfl, hl, h⟩ := ih fun d h => hd d (List.mem_cons_of_mem _ h)
    obtain ⟨ys, e, hy⟩ := hd _ (List.mem_cons_self ..)
    cases e
    refine ⟨_ :: as, rfl, congrArg Nat.succ hl, fun b hb => ?_⟩
    rcases List.mem_cons.mp hb with rfl | hb
    · exact ⟨(hM _).mpr (.inl rfl), _, ha, by rw [tra_len t1]; exact hy⟩
    · obtain ⟨g1, g2⟩ := h b hb
      exact ⟨(hM _).mpr (.inr (.inr g1)), g2⟩
theorem tra_at {B H : Hp} {vs : List V} {M : Addr → Prop} (h : TrA K B H vs ds M) : ∀ {i : Nat} {xs : List PyData}, ds[i]? = some (.list xs) → ∃ a us M', vs[i]? = some (.ref a) ∧ H a = some (.lst us) ∧ TrA K B H us xs M' ∧ M a ∧ ∀ c, M' c → M c := by
  induction h with
  | nil _ => exact fun e => nomatch e
  | pu _ hn _ ih =>
    intro i xs e
    cases i with
    | zero => cases e; cases hn with | flat f => cases f
    | succ i => exact ih e
  | ow ha t1 _ _ _ _ hM _ ih =>
    intro i xs e
    cases i with
    | zero => cases e; exact ⟨_, _, _, rfl, ha, t1, (hM _).mpr (.inl rfl), fun c z => (hM c).mpr (.inr (.inl z))⟩
    | succ i =>
      obtain ⟨a, us, M', h1, h2, h3, h4, h5⟩ := ih e
      exact ⟨a, us, M', h1, h2, h3, (hM _).mpr (.inr (.inr h4)), fun c z => (hM c).mpr (.inr (.inr (h5 c z)))⟩
theorem xs_to {i : Nat} {R : Res} (hi : δ[i]? = some (.ow R)) {J : Type} (R' : J → Res) (hR : ∀ v B H M, R.P v B H M → ∃ j, (R' j).P v B H M) (h : ∀ j, ExS K t d (δ.set i (.ow (R' j)))) : ExS K t d δ := fun B H σ F D S L => by
  obtain ⟨v, M, ev, hP, hb, hF, op⟩ := S.opn hi
  obtain ⟨j, hj⟩ := hR _ _ _ _ hP
  have S2 := op B H (some v) (.ow (R' j)) M (Ex.refl _) S.bh (fun _ _ z _ => z) (fun _ _ z => .inl z) ⟨v, rfl, hj, hb⟩ fun _ z => .inl z
  rw [set_self ev] at S2
  exact h j B H σ F D S2 L
theorem rtr_rj {n : Nat} (hd : ∀ d ∈ ds, ∃ xs : List PyData, d = .list xs ∧ xs.length ≤ n) : ∀ v B H M, (RTr K ds).P v B H M → ∃ j : { q : Addr × List Addr // q.2.length = ds.length }, (RJ j.1.1 j.1.2 n).P v B H M := fun v B H M hP => by
  have hlive := (RTr K ds).live hP
  obtain ⟨a, vs, M1, rfl, ha, ht, na, hM⟩ := hP
  obtain ⟨as, rfl, hl, h⟩ := tra_refs ht hd
  refine ⟨⟨(a, as), hl⟩, rfl, ha, (hM a).mpr (.inl rfl), fun b hb => ?_, hlive⟩
  obtain ⟨g1, g2⟩ := h b hb
  exact ⟨(hM b).mpr (.inr g1), fun e => na (by rw [← show b = a from e]; exact g1), g2⟩
/-- a nest whose lists of lists stand at known addresses -/
def ROp (K : PySem.W.Frag) (ds : List PyData) (root : Addr) (bs : List Addr) (css : List (List Addr)) : Res where
  P v B H M := (RTr K ds).P v B H M ∧ v = .ref root ∧ M root ∧ H root = some (.lst (bs.map V.ref)) ∧ ∀ (i : Nat) (b : Addr) (cs : List Addr), bs[i]? = some b → css[i]? = some cs → M b ∧ H b = some (.lst (cs.map V.ref))
  loc := by
    rintro v B H B' H' M ⟨h0, h1, h2, h3, h4⟩ e k
    refine ⟨(RTr K ds).loc h0 e k, h1, h2, by rw [k root h2]; exact h3, fun i b cs hb hc => ?_⟩
    obtain ⟨g1, g2⟩ := h4 i b cs hb hc
    exact ⟨g1, by rw [k b g1]; exact g2⟩
  live := fun h => (RTr K ds).live h.1
theorem rop_at {root : Addr} {bs : List Addr} {css : List (List Addr)} : IsAt (ROp K ds root bs css) root := fun _ _ _ _ h => h.2.1
theorem rop_shows {root : Addr} {bs : List Addr} {css : List (List Addr)} : ShowsR (ROp K ds root bs css) root bs := fun _ _ _ _ h => h.2.2.2.1
theorem rop_shows2 {root b : Addr} {bs cs : List Addr} {css : List (List Addr)} {i : Nat} (hb : bs[i]? = some b) (hc : css[i]? = some cs) : ShowsR (ROp K ds root bs css) b cs := fun _ _ _ _ h => (h.2.2.2.2 i b cs hb hc).2
theorem rop_deep {root b c : Addr} {bs cs : List Addr} {css : List (List Addr)} {i j : Nat} {xs ys : List PyData} (hb : bs[i]? = some b) (hc : css[i]? = some cs) (hj : cs[j]? = some c) (h1 : ds[i]? = some (.list xs)) (h2 : xs[j]? = some (.list ys)) : DeepD2 K (RRef c) (ROp K ds root bs css) (.list ys) := fun v B H M v' M' hc0 hP e => by
  obtain ⟨rfl, _⟩ := hc0
  obtain ⟨⟨a, vs, M1, e0, ha, ht, _, _⟩, e1, _, hr, hk⟩ := hP
  rw [e0] at e1
  cases e1
  rw [ha] at hr
  cases hr
  obtain ⟨b', us, M', g1, g2, g3, _⟩ := tra_at ht h1
  rw [List.getElem?_map, hb] at g1
  cases g1
  have g4 := (hk i b cs hb hc).2
  rw [g2] at g4
  cases g4
  obtain ⟨c', us', M2, k1, k2, k3, _⟩ := tra_at g3 h2
  rw [List.getElem?_map, hj] at k1
  cases k1
  exact .lst (SqL.of k2) (tra_data e k3 fun _ _ => rfl)
/-- what such a nest opens to -/
structure OpJ (ds : List PyData) where
  root : Addr
  bs : List Addr
  css : List (List Addr)
  len : bs.length = ds.length
  len2 : ∀ (i : Nat) (xs : List PyData), ds[i]? = some (.list xs) → ∃ cs : List Addr, css[i]? = some cs ∧ cs.length = xs.length
theorem rtr_rop (hd : ∀ d ∈ ds, ∃ xs : List PyData, d = .list xs ∧ ∀ y ∈ xs, ∃ zs : List PyData, y = .list zs) : ∀ v B H M, (RTr K ds).P v B H M → ∃ j : OpJ ds, (ROp K ds j.root j.bs j.css).P v B H M := fun v B H M hP => by
  have hP0 := hP
  obtain ⟨a, vs, M1, rfl, ha, ht, na, hM⟩ := hP
  have hx : ∃ n : Nat, ∀ d ∈ ds, ∃ xs : List PyData, d = .list xs ∧ xs.length ≤ n := by
    clear hP0 ht
    induction ds with
    | nil => exact ⟨0, fun _ h => nomatch h⟩
    | cons d ds ih =>
      obtain ⟨n, hn⟩ := ih fun x hx => hd x (List.mem_cons_of_mem _ hx)
      obtain ⟨xs, rfl, _⟩ := hd _ (List.mem_cons_self ..)
      refine ⟨n + xs.length, fun x hx => ?_⟩
      rcases List.mem_cons.mp hx with rfl | hx
      · exact ⟨xs, rfl, by omega⟩
      · obtain ⟨ys, e, hy⟩ := hn x hx
        exact ⟨ys, e, by omega⟩
  obtain ⟨n, hn⟩ := hx
  obtain ⟨bs, rfl, hl, hb⟩ := tra_refs ht hn
  -- the lists' own lists
  have key : ∀ i : Nat, ∃ cs : List Addr, ∀ b xs, bs[i]? = some b → ds[i]? = some (.list xs) → H b = some (.lst (cs.map V.ref)) ∧ cs.length = xs.length := fun i => by
    cases h1 : ds[i]? with
    | none => exact ⟨[], fun b xs _ e => nomatch e⟩
    | some d =>
      obtain ⟨xs, rfl, hxs⟩ := hd d (List.mem_of_getElem? h1)
      obtain ⟨b, us, M', g1, g2, g3, _⟩ := tra_at ht h1
      have hz : ∃ m : Nat, ∀ y ∈ xs, ∃ zs : List PyData, y = .list zs ∧ zs.length ≤ m := by
        clear h1 g3
        induction xs with
        | nil => exact ⟨0, fun _ h => nomatch h⟩
        | cons d xs ih =>
          obtain ⟨n, hn⟩ := ih fun x hx => hxs x (List.mem_cons_of_mem _ hx)
          obtain ⟨zs, rfl⟩ := hxs _ (List.mem_cons_self ..)
          refine ⟨n + zs.length, fun x hx => ?_⟩
          rcases List.mem_cons.mp hx with rfl | hx
          · exact ⟨zs, rfl, by omega⟩
          · obtain ⟨ys, e, hy⟩ := hn x hx
            exact ⟨ys, e, by omega⟩
      obtain ⟨m, hm⟩ := hz
      obtain ⟨cs, rfl, hcl, _⟩ := tra_refs g3 hm
      refine ⟨cs, fun b2 xs2 e2 e3 => ?_⟩
      cases e3
      rw [List.getElem?_map, e2] at g1
      cases g1
      exact ⟨g2, hcl⟩
  have hcs := Classical.axiomOfChoice key
  obtain ⟨f, hf⟩ := hcs
  refine ⟨⟨a, bs, (List.range ds.length).map f, hl, fun i xs h => ?_⟩, hP0, rfl, (hM a).mpr (.inl rfl), ha, fun i b cs hb2 hc => ?_⟩
  · have hi := (List.getElem?_eq_some_iff.mp h).1
    have hib : i < bs.length := by omega
    exact ⟨f i, by rw [List.getElem?_map, List.getElem?_range hi]; rfl, (hf i _ xs (List.getElem?_eq_getElem hib) h).2⟩
  · have hi : i < ds.length := by
      have h : i < bs.length := (List.getElem?_eq_some_iff.mp hb2).1
      omega
    rw [List.getElem?_map, List.getElem?_range hi] at hc
    cases hc
    obtain ⟨xs, h1, _⟩ := hd _ (List.getElem_mem hi)
    exact ⟨(hM b).mpr (.inr (hb b (List.mem_of_getElem? hb2)).1), (hf i b xs hb2 (by rw [List.getElem?_eq_getElem hi, h1])).1⟩
theorem tra_no {B H : Hp} {vs : List V} {M : Addr → Prop} (h : TrA K B H vs ds M) : (∀ d ∈ ds, NoL d) → DpAll K B vs ds ∧ ∀ a, ¬ M a := by
  induction h with
  | nil n => exact fun _ => ⟨.nil, n⟩
  | pu hd _ _ ih =>
    intro h
    obtain ⟨a, b⟩ := ih fun d hd => h d (List.mem_cons_of_mem _ hd)
    exact ⟨.cons hd a, b⟩
  | ow _ _ _ _ _ _ _ _ _ =>
    intro h
    cases h _ (List.mem_cons_self ..) with | flat f => cases f
theorem rl_of_rtr {v : V} {B H : Hp} {M : Addr → Prop} (hn : ∀ d ∈ ds, NoL d) (h : (RTr K ds).P v B H M) : (RL K ds).P v B H M := by
  obtain ⟨a, vs, M1, rfl, ha, ht, na, hM⟩ := h
  obtain ⟨h1, h2⟩ := tra_no ht hn
  exact ⟨a, vs, rfl, ha, h1, fun c => by rw [hM c]; exact ⟨fun z => z.elim id fun z => (h2 c z).elim, .inl⟩⟩
/-! ### (x, list): as a list, its second -/
theorem ev_listM (h : EvS K ta δ fun s δ1 => ∃ (x : PyData) (ys : List PyData) (t l : Addr), s = .ow (RH K t [(t, .tup [.d x, .r l]), (l, .lst (ys.map .d))]) ∧ NoL x ∧ (∀ y ∈ ys, NoL y) ∧ Φ (.ow (RTr K [x, .list ys])) δ1) : EvS K (tCB (fun xs H Q => ∃ p ys, xs = [V.ref p] ∧ (SqL K H p ys ∨ SqT K H p ys) ∧ ∀ (l : Addr), H l = none → Q (V.ref l) (upd H l (HO.lst ys))) (tCons ta tNil)) δ Φ := fun B H σ F Q S k =>
  h B H σ F _ S fun v M s B1 H1 δ1 e1 f1 S1 w1 n1 ⟨x, ys, t, l, es, hx, hy, q⟩ => by
    subst es
    have ht := (RH.get w1 (a := t) (c := .tup [.d x, .r l]) (List.mem_cons_self ..))
    have hl := (RH.get w1 (a := l) (c := .lst (ys.map .d)) (List.mem_cons_of_mem _ (List.mem_cons_self ..)))
    obtain ⟨rfl, _, hnd, hM⟩ := w1
    obtain ⟨⟨vs, hv1, hv2⟩, hMt⟩ := ht
    obtain ⟨⟨us, hu1, hu2⟩, hMl⟩ := hl
    cases hv2 with
    | @cons v0 _ _ _ hd0 r0 =>
      cases r0 with
      | cons hr1 r1 =>
        cases r1
        have hr1 : _ = V.ref l := hr1
        subst hr1
        refine ⟨t, _, rfl, .inr (SqT.of hv1), fun D hD => ?_⟩
        have lD : l ≠ D := fun e => by rw [e, hD] at hu1; cases hu1
        have S3 := sd_own (o := .lst [v0, .ref l]) S1 hD
        refine k (.ref D) (fun c => c = D ∨ c = l) (.ow (RTr K [x, .list ys])) B1 _ δ1 e1 (fun c z => ?_) (S3.less fun c z => ?_) ⟨D, _, fun c => c = l, rfl, upd_same, .pu hd0 hx (.ow (M1 := fun _ => False) (M2 := fun _ => False) (by rw [upd_ne lD]; exact hu1) (tra_flat (cva_data' hu2) hy fun _ z => z) (.nil fun _ z => z) (fun z => z) (fun z => z) (fun _ z => z.elim) fun c => ⟨.inl, fun z => z.elim id fun z => z.elim False.elim False.elim⟩), lD.symm, fun c => Iff.rfl⟩ (fun c z hf => ?_) q
        · rw [upd_ne (fun e => S1.fl c (.inl z) (by rw [e]; exact hD)), f1 c z]
        · rcases z with z | z | z
          · exact .inl (.inl z)
          · exact .inr z
          · exact .inl (.inr (by rw [z]; exact hMl))
        · rcases z with z | z
          · exact S1.fl c (.inl hf) (by rw [z]; exact hD)
          · exact n1 c (by rw [z]; exact hMl) hf
theorem ev_ixM (h : EvS K ta δ fun s δ1 => ∃ (x : PyData) (ys : List PyData) (t l : Addr), s = .ow (RH K t [(t, .tup [.d x, .r l]), (l, .lst (ys.map .d))]) ∧ Φ (.ow (RL K ys)) δ1) : EvS K (tOp (rIxT K) ta (tC (.int 1))) δ Φ := fun B H σ F Q S k =>
  h B H σ F _ S fun v M s B1 H1 δ1 e1 f1 S1 w1 n1 ⟨x, ys, t, l, es, q⟩ => by
    subst es
    have ht := (RH.get w1 (a := t) (c := .tup [.d x, .r l]) (List.mem_cons_self ..))
    have hl := (RH.get w1 (a := l) (c := .lst (ys.map .d)) (List.mem_cons_of_mem _ (List.mem_cons_self ..)))
    obtain ⟨rfl, _, hnd, hM⟩ := w1
    obtain ⟨⟨vs, hv1, hv2⟩, hMt⟩ := ht
    obtain ⟨⟨us, hu1, hu2⟩, hMl⟩ := hl
    cases hv2 with
    | @cons v0 _ _ _ hd0 r0 =>
      cases r0 with
      | cons hr1 r1 =>
        cases r1
        have hr1 : _ = V.ref l := hr1
        subst hr1
        exact ⟨t, _, 1, .ref l, rfl, rfl, SqT.of hv1, rfl, k (.ref l) (fun c => c = l) (.ow (RL K ys)) B1 H1 δ1 e1 f1 (S1.less fun c z => z.elim .inl fun z => .inr (by rw [z]; exact hMl)) ⟨l, us, rfl, hu1, cva_data' hu2, fun c => Iff.rfl⟩ (fun c z hf => n1 c (by rw [z]; exact hMl) hf) q⟩
/-- the first of it -/
theorem ev_ixM0 (h : EvS K ta δ fun s δ1 => ∃ (x : PyData) (ys : List PyData) (t l : Addr), s = .ow (RH K t [(t, .tup [.d x, .r l]), (l, .lst (ys.map .d))]) ∧ Φ (.pu x) δ1) : EvS K (tOp (rIxT K) ta (tC (.int 0))) δ Φ := fun B H σ F Q S k =>
  h B H σ F _ S fun v M s B1 H1 δ1 e1 f1 S1 w1 n1 ⟨x, ys, t, l, es, q⟩ => by
    subst es
    have ht := (RH.get w1 (a := t) (c := .tup [.d x, .r l]) (List.mem_cons_self ..))
    obtain ⟨rfl, _, hnd, hM⟩ := w1
    obtain ⟨⟨vs, hv1, hv2⟩, hMt⟩ := ht
    cases hv2 with
    | @cons v0 _ _ _ hd0 r0 =>
      cases r0 with | cons hr1 r1 =>
      cases r1
      exact ⟨t, _, 0, v0, rfl, rfl, SqT.of hv1, rfl, k v0 (fun _ => False) (.pu x) B1 H1 δ1 e1 f1 (S1.less fun c z => .inl (z.elim id False.elim)) ⟨hd0, fun _ z => z⟩ (fun _ z => z.elim) q⟩
end
end Dl

/-! Rk9: sorted of a list of (int, int, text). -/
namespace Rk
open PySem PySem.Spec PyProof.Rows L2 PyProof.Rows.G
abbrev Row3 := Int × Int × Str
def key3 (r : Row3) : List (Int ⊕ List Nat) := [.inl r.1, .inl r.2.1, .inr r.2.2.cps.toList]
def before3 (a b : Row3) : Bool := lexLt itemOrd (key3 a) (key3 b)
theorem key3_inj {a b : Row3} (h : key3 a = key3 b) : a = b := by
  obtain ⟨a1, a2, ⟨a3⟩⟩ := a
  obtain ⟨b1, b2, ⟨b3⟩⟩ := b
  simp only [key3, List.cons.injEq, Sum.inl.injEq, Sum.inr.injEq, and_true] at h
  obtain ⟨rfl, rfl, h3⟩ := h
  rw [Array.toList_inj.mp h3]
theorem before3_anti {a b : Row3} (h1 : before3 a b = false) (h2 : before3 b a = false) : a = b := key3_inj (lex_total _ _ h1 h2)
def rSortedR (K : PySem.W.Frag) : List V → Hp → VK → Prop := fun vs H Q => ∃ (a : Addr) (xs : List V) (k : V → Row3), vs = [V.ref a] ∧ SqL K H a xs ∧ (∀ x ∈ xs, ∃ t, x = V.ref t ∧ SqT K H t [.int (k x).1, .int (k x).2.1, .str (k x).2.2]) ∧
  ∀ ys p, ys.Perm xs → ys.Pairwise (fun x y => before3 (k y) (k x) = false) → H p = none → Q (.ref p) (upd H p (.lst ys))
def sh3 : Nat → Bool := fun i => i == 2
theorem tupsOf_ex {h : Heap} {shape : Nat → Bool} : ∀ {vs : List Value}, (∀ v ∈ vs, ∃ f, TupOf h shape v f) → ∃ fs, TupsOf h shape vs fs
  | [], _ => ⟨[], .nil⟩
  | v :: vs, H => by
    obtain ⟨f, hf⟩ := H v (List.mem_cons_self ..)
    obtain ⟨fs, hfs⟩ := tupsOf_ex fun v hv => H v (List.mem_cons_of_mem _ hv)
    exact ⟨f :: fs, .cons hf hfs⟩
theorem tupKeyC_of3 {h : Heap} {shape : Nat → Bool} {a : Addr} {o : Obj} {xs : Array Value} {n : Nat} {l : List (Int ⊕ List Nat)} (ho : h.get? a = some o) (hc : o.cls = .type "tuple") (hd : o.data = .seq xs n)
    (hi : tupItems shape 0 xs.toList = some l) : tupKeyC h shape (.ref a) = some l := by
  unfold tupKeyC
  have e1 : isTupObj h (.ref a) = true := by simp [isTupObj, ho, hc]
  rw [if_pos e1]
  simp only [tupKey, ho, hd]
  exact hi
theorem cr_sortedR {X : Cx} {K : PySem.W.Frag} (hK : X.K = K := by rfl) : CallR X (.builtin "sorted") (rSortedR K) := by
  subst hK
  intro pins s σ H vs us Q I r h
  obtain ⟨a, xs, k, rfl, hs, hx, q⟩ := h
  obtain ⟨its, rv, hl, hz⟩ := I.list hs
  obtain ⟨u, rfl, ru⟩ := vals1 r
  obtain rfl : u = Value.ref a := ru
  obtain ⟨e1, e2⟩ := refs_back rv fun x m => by
    obtain ⟨t, e, _⟩ := hx x m
    exact ⟨t, e⟩
  have tup : ∀ v ∈ its, ∃ t o n t1 t2 t3, v = .ref t ∧ s.heap.get? t = some o ∧ o.cls = .type "tuple" ∧ o.data = .seq #[.int (k (backV v)).1 t1, .int (k (backV v)).2.1 t2, .str (k (backV v)).2.2 t3] n := fun v hv => by
    obtain ⟨t, rfl⟩ := e2 v hv
    have hm : V.ref t ∈ xs := by rw [e1]; exact List.mem_map.mpr ⟨_, hv, rfl⟩
    obtain ⟨t', e, ht⟩ := hx _ hm
    cases e
    obtain ⟨its2, r2, p, _⟩ := I.tuple ht
    obtain ⟨u1, u2, u3, rfl, r1, rj, rk⟩ : ∃ u1 u2 u3, its2 = [u1, u2, u3] ∧ RelV (V.int (k (V.ref t)).1) u1 ∧ RelV (V.int (k (V.ref t)).2.1) u2 ∧ RelV (V.str (k (V.ref t)).2.2) u3 := by
      cases r2 with
      | cons h1 r2 =>
        obtain ⟨u2, u3, rfl, h2, h3⟩ := vals2 r2
        exact ⟨_, _, _, rfl, h1, h2, h3⟩
    obtain ⟨o, ho, hc, n, hd⟩ := p
    obtain ⟨t1, rfl⟩ := r1
    obtain ⟨t2, rfl⟩ := rj
    obtain ⟨t3, rfl⟩ := rk
    exact ⟨t, o, n, t1, t2, t3, rfl, ho, hc, hd⟩
  have key : ∀ v ∈ its, tupKeyC s.heap sh3 v = some (key3 (k (backV v))) := fun v hv => by
    obtain ⟨t, o, n, t1, t2, t3, rfl, ho, hc, hd⟩ := tup v hv
    exact tupKeyC_of3 ho hc hd rfl
  obtain ⟨fs, hfs⟩ := tupsOf_ex (h := s.heap) (shape := sh3) fun v hv => by
    obtain ⟨t, o, n, t1, t2, t3, rfl, ho, hc, hd⟩ := tup v hv
    exact ⟨_, t, o, _, n, rfl, ho, hc, hd, rfl, fun _ => ⟨_, _, rfl⟩, fun e => nomatch e⟩
  refine sorted_tups (shape := sh3) hl.isList hfs (fun v hv => ⟨_, key v hv⟩) (by rw [← rv.length]; exact hz) fun st' hp hst _ => ?_
  have hl1 : (arrOf st').toList.Perm (its.zip its) := by
    have e := Array.perm_iff_toList_perm.mp hp
    rw [pairsOf_toList] at e
    exact e
  have self : ∀ p ∈ (arrOf st').toList, p.1 = p.2 ∧ p.1 ∈ its := fun p hp => mem_zip_self (hl1.mem_iff.mp hp)
  have hout : (((arrOf st').map (·.2)).toList).Perm its := by
    rw [Array.toList_map]
    have := hl1.map (·.2)
    rwa [show (its.zip its).map (·.2) = its from by rw [List.map_snd_zip (Nat.le_refl _)]] at this
  have hmem : ∀ v ∈ ((arrOf st').map (·.2)).toList, v ∈ its := fun v hv => hout.mem_iff.mp hv
  have h3 : ∀ u ∈ ((arrOf st').map (·.2)).toList, ∃ a, u = Value.ref a := fun u hu => e2 u (hmem u hu)
  have hpm : ((((arrOf st').map (·.2)).toList).map backV).Perm xs := by
    rw [e1]
    exact hout.map backV
  have hsr : ((((arrOf st').map (·.2)).toList).map backV).Pairwise (fun x y => before3 (k y) (k x) = false) := by
    rw [List.pairwise_iff_getElem]
    intro i j hi hj hij
    simp only [List.length_map, Array.length_toList, Array.size_map] at hi hj
    have hsz : (pairsOf its).size = (arrOf st').size := by
      rw [← Array.length_toList, ← Array.length_toList, pairsOf_toList]
      exact hl1.length_eq.symm
    have e := hst i j (Nat.le_of_lt hij) (by rw [hsz]; exact hj)
    have kk : ∀ m (hm : m < (arrOf st').size), KK (tupKindC s.heap sh3) (arrOf st') m = key3 (k (backV ((arrOf st')[m]).2)) := fun m hm => by
      have hm2 := self _ (Array.getElem_mem_toList hm)
      unfold KK
      rw [Array.getElem?_eq_getElem hm]
      show (tupKeyC s.heap sh3 _).getD [] = _
      rw [key _ hm2.2, hm2.1]
      rfl
    rw [kk i hi, kk j hj] at e
    simp only [List.getElem_map, Array.getElem_toList, Array.getElem_map]
    exact e
  have hlay := sortedAll_at s.heap its ((arrOf st').map (·.2))
  obtain ⟨n, hn⟩ := hlay
  have kp : ∀ b o, s.heap.get? b = some o → (sortedAll s.heap its ((arrOf st').map (·.2))).get? b = some o := fun b o e => sortedAll_old e
  refine ⟨.ref (s.heap.objs.size + 1), upd H (s.heap.objs.size + 1) (.lst ((((arrOf st').map (·.2)).toList).map backV)), I.laid (t' := s.toks) kp (Nat.le_succ _) ⟨?_, _, n, vals_back h3, ?_⟩, rfl, q _ _ hpm hsr (I.hok.fresh (Nat.le_succ _))⟩
  · rw [hpm.length_eq]
    exact hz
  · exact hn
def rSortedR2 (K : PySem.W.Frag) : List V → Hp → VK → Prop := fun vs H Q => ∃ (a : Addr) (xs : List V) (rs : List Row3), vs = [V.ref a] ∧ SqL K H a xs ∧ xs.length = rs.length ∧ (∀ (i : Nat) (x : V) (r : Row3), xs[i]? = some x → rs[i]? = some r → ∃ t, x = V.ref t ∧ SqT K H t [.int r.1, .int r.2.1, .str r.2.2]) ∧
  ∀ (zs : List (V × Row3)) (p : Addr), zs.Perm (xs.zip rs) → zs.Pairwise (fun x y => before3 y.2 x.2 = false) → H p = none → Q (.ref p) (upd H p (.lst (zs.map (·.1))))
theorem cr_sortedR2 {X : Cx} {K : PySem.W.Frag} (hK : X.K = K := by rfl) : CallR X (.builtin "sorted") (rSortedR2 K) := by
  subst hK
  intro pins s σ H vs us Q I r h
  obtain ⟨a, xs, rs, e, hs, hl, hx, q⟩ := h
  let W : V → Row3 → Prop := fun x r => ∃ t, x = V.ref t ∧ SqT X.K H t [.int r.1, .int r.2.1, .str r.2.2]
  let k : V → Row3 := fun x => open Classical in if h : ∃ r, W x r then h.choose else (0, 0, "")
  have hk : ∀ x r, W x r → k x = r := fun x r hw => by
    have h : ∃ r, W x r := ⟨r, hw⟩
    have e1 : k x = h.choose := dif_pos h
    obtain ⟨t, e2, h2⟩ := h.choose_spec
    obtain ⟨t', e3, h3⟩ := hw
    rw [e2] at e3
    cases e3
    have e4 := I.tuple_inj h2 h3
    simp only [List.cons.injEq, V.int.injEq, V.str.injEq, and_true] at e4
    rw [e1]
    exact Prod.ext e4.1 (Prod.ext e4.2.1 e4.2.2)
  have hz : xs.map (fun y => (y, k y)) = xs.zip rs := by
    apply List.ext_getElem
    · rw [List.length_map, List.length_zip]; omega
    · intro i h1 h2
      rw [List.length_map] at h1
      rw [List.getElem_map, List.getElem_zip]
      rw [hk _ _ (hx i _ rs[i] (List.getElem?_eq_getElem h1) (List.getElem?_eq_getElem (by omega)))]
  refine cr_sortedR rfl pins s σ H vs us Q I r ⟨a, xs, k, e, hs, fun x m => ?_, fun ys p hp hsr hn => ?_⟩
  · obtain ⟨i, hi, rfl⟩ := List.mem_iff_getElem.mp m
    obtain ⟨t, e1, e2⟩ := hx i _ rs[i] (List.getElem?_eq_getElem hi) (List.getElem?_eq_getElem (by omega))
    rw [hk _ _ ⟨t, e1, e2⟩]
    exact ⟨t, e1, e2⟩
  · have := q (ys.map fun y => (y, k y)) p (by rw [← hz]; exact hp.map _) (List.pairwise_map.mpr hsr) hn
    rwa [List.map_map, show ((fun x : V × Row3 => x.1) ∘ fun y => (y, k y)) = id from rfl, List.map_id] at this
end Rk

/-! Dl30: sorted of rows; a list of new lists by a comprehension over references. -/
namespace Dl
open PySem PySem.Spec PyProof.Rows L2
open Evl (Ex)
def rowD3 (r : Rk.Row3) : PyData := .tuple [.int r.1, .int r.2.1, .str r.2.2]
section
variable {K : PySem.W.Frag} {w : World} {δ : List Slot} {te ta tb tc : TE} {tr : TA} {tt : TT} {t u : TS} {d : Dn} {Φ : Slot → List Slot → Prop} {ds : List PyData}
theorem row3_dp {B : Hp} {x : V} {r : Rk.Row3} (h : Dp K B x (rowD3 r)) : ∃ t, x = V.ref t ∧ SqT K B t [.int r.1, .int r.2.1, .str r.2.2] := by
  cases h with
  | @tup p xs _ hs ha =>
    cases ha with
    | cons h1 r1 =>
    cases r1 with
    | cons h2 r2 =>
    cases r2 with
    | cons h3 r3 =>
    cases r3
    rw [dp_int_inv h1, dp_int_inv h2, dp_str_inv h3] at hs
    exact ⟨p, rfl, hs⟩
theorem dpa_rows {B : Hp} : ∀ {zs : List (V × Rk.Row3)}, (∀ z ∈ zs, Dp K B z.1 (rowD3 z.2)) → DpAll K B (zs.map (·.1)) ((zs.map (·.2)).map rowD3)
  | [], _ => .nil
  | z :: zs, h => .cons (h z (List.mem_cons_self ..)) (dpa_rows fun y hy => h y (List.mem_cons_of_mem _ hy))
theorem ev_sortR (h : EvS K ta δ fun s δ1 => ∃ rs : List Rk.Row3, den K δ1 s (.list (rs.map rowD3)) ∧ ∀ rs' : List Rk.Row3, rs'.Perm rs → rs'.Pairwise (fun x y => Rk.before3 y x = false) → Φ (.ow (RL K (rs'.map rowD3))) δ1) : EvS K (tCB (Rk.rSortedR2 K) (tCons ta tNil)) δ Φ := fun B H σ F Q S kk =>
  h B H σ F _ S fun v M s B2 H2 δ1 e f S2 w n ⟨rs, hden, q⟩ => by
    obtain ⟨p, xs, rfl, hq, ha⟩ := (den_dr S2 w hden).lst S2.bh
    have hl : xs.length = rs.length := by rw [dpa_len ha, List.length_map]
    have at_ : ∀ (i : Nat) (x : V) (r : Rk.Row3), xs[i]? = some x → rs[i]? = some r → Dp K B2 x (rowD3 r) := fun i x r hx hr => by
      obtain ⟨x', h1, h2⟩ := dpa_get ha (i := i) (d := rowD3 r) (by rw [List.getElem?_map, hr]; rfl)
      rw [hx] at h1
      cases h1
      exact h2
    refine ⟨p, xs, rs, rfl, hq, hl, fun i x r hx hr => ?_, fun zs D hp hs hD => ?_⟩
    · obtain ⟨t, e1, e2⟩ := row3_dp (at_ i x r hx hr)
      exact ⟨t, e1, Evl.ex_t S2.bh e2⟩
    · have hz : ∀ z ∈ zs, Dp K B2 z.1 (rowD3 z.2) := fun z hz => by
        obtain ⟨i, hi⟩ := List.mem_iff_getElem?.mp (hp.mem_iff.mp hz)
        rw [List.getElem?_zip_eq_some] at hi
        exact at_ i _ _ hi.1 hi.2
      have hpr : (zs.map (·.2)).Perm rs := by
        have := hp.map (·.2)
        rwa [List.map_snd_zip (by omega)] at this
      have S3 := sd_own (o := .lst (zs.map (·.1))) S2 hD
      refine kk (.ref D) (fun c => c = D) (.ow (RL K ((zs.map (·.2)).map rowD3))) B2 _ δ1 e (fun c z => ?_) (S3.less fun c z => ?_) ⟨D, _, rfl, upd_same, dpa_rows hz, fun _ => Iff.rfl⟩ (fun c z hf => ?_) (q _ hpr (List.pairwise_map.mpr hs))
      · rw [upd_ne (fun z2 => S2.fl c (.inl z) (by rw [z2]; exact hD)), f c z]
      · rcases z with z | z
        · exact .inl (.inl z)
        · exact .inr z
      · exact S2.fl c (.inl hf) (by rw [z]; exact hD)
theorem perm_sorted {a b : List Rk.Row3} (hp : a.Perm b) (ha : a.Pairwise (fun x y => Rk.before3 y x = false)) (hb : b.Pairwise (fun x y => Rk.before3 y x = false)) : a = b :=
  hp.eq_of_pairwise (fun x y _ _ h1 h2 => Rk.before3_anti h2 h1) ha hb
/-- [e for x in references ..], what e tells is owned -/
theorem ev_lcTG {j : Nat} (h : EvS K ta δ fun s δ1 => ∃ (p : Addr) (as : List Addr) (i0 : Nat) (R : Res), s = .al i0 ∧ δ1[i0]? = some (.ow R) ∧ IsAt R p ∧ ShowsR R p as ∧ Wip δ1 [j] ∧ j < δ1.length ∧ ∃ Pv : Nat → List PyData → Prop, Pv 0 [] ∧
    (∀ (i : Nat) (a : Addr) acc, as[i]? = some a → Pv i acc → EvS K te (δ1.set j (.ow (RRef a))) fun s2 δ2 => (∀ k, k ∉ [j] → δ2[k]? = δ1[k]?) ∧ ∃ y, SlT K s2 y ∧ acc.length < 100000 ∧ Pv (i + 1) (acc ++ [y])) ∧
    ∀ acc, Pv as.length acc → Φ (.ow (RTr K acc)) δ1) : EvS K (tLc (iList K ta) (gName j) tYes te [j]) δ Φ := fun B H σ F Q S kk =>
  h B H σ F _ S fun v M s B2 H2 δ1 e f S2 w n0 ⟨p, as, i0, R, es, hi0, hat, hsh, hv, hj, Pv, h0, hs, hd⟩ => by
    subst es
    have S2' : Sd K B2 H2 σ δ1 F := S2.less fun a z => .inl z
    have look : ∀ B' H', Sd K B' H' σ δ1 F → v = .ref p ∧ H' p = some (.lst (as.map V.ref)) := fun B' H' S' => by
      obtain ⟨v', M', ev, hP, _⟩ := S'.opn hi0
      rw [w.1] at ev
      cases ev
      exact ⟨hat _ _ _ _ hP, hsh _ _ _ _ hP⟩
    obtain ⟨rfl, hl0⟩ := look B2 H2 S2'
    refine ⟨p, rfl, ⟨_, SqL.of hl0⟩, fun D hD => ?_⟩
    let Inv := fun (i : Nat) (H' : Hp) => ∃ B' xs acc M1, Ex B2 B' ∧ (∀ a, F a → H' a = H2 a) ∧ Sd K B' H' σ δ1 (fun a => F a ∨ (a = D ∨ M1 a)) ∧ H' D = some (.lst xs) ∧ TrA K B' H' xs acc M1 ∧ ¬ M1 D ∧ (∀ a, M1 a → ¬ F a) ∧ Pv i acc
    have nF : ¬ F D := fun z => S2'.fl D z hD
    refine ⟨fun i m H' => m = as.length - i ∧ i ≤ as.length ∧ Inv i H', ⟨as.length, rfl, Nat.zero_le _, B2, [], [], fun _ => False, Ex.refl _, fun a z => upd_ne fun e => nF (by rw [← e]; exact z), (sd_own S2' hD).less fun a z => z.elim .inl fun z => .inr (z.elim id False.elim), upd_same, .nil fun _ z => z, fun z => z, fun _ z => z.elim, h0⟩, ?_⟩
    rintro i m H' ⟨rfl, hi, B', xs, acc, M1, e', f', S', hx, ha, nM1, nMF, pv⟩
    have hl' := (look B' H' (S'.less fun a z => .inl z)).2
    by_cases hlt : i < as.length
    · have hw : (as.map V.ref)[i]? = some (.ref as[i]) := by rw [List.getElem?_map, List.getElem?_eq_getElem hlt]; rfl
      refine .inr ⟨⟨_, _, SqL.of hl', hw⟩, Inv (i + 1), fun H2 q => ⟨as.length - (i + 1), by omega, rfl, hlt, q⟩, fun x H3 hy => ?_⟩
      obtain ⟨e1, e2⟩ := hy
      subst e1
      have e3 := (e2 _ (SqL.of hl')).symm.trans hw
      cases e3
      have hσl := S'.len
      have agree : ∀ k, k ∉ [j] → ((wipe σ [j]).set j (some (.ref as[i])))[k]? = σ[k]? := fun k hk => by
        rw [List.getElem?_set_ne (fun z => hk (by rw [z]; exact List.mem_singleton.mpr rfl)), wipe_out hk]
      refine ⟨?_, ?_⟩
      · exact wipe_ext (by rw [List.length_set, wipe_length]) agree
      · have S3 : Sd K B' H3 ((wipe σ [j]).set j (some (.ref as[i]))) (δ1.set j (.ow (RRef as[i]))) (fun a => F a ∨ (a = D ∨ M1 a)) := by
          have q := (S'.wiped [j]).put (i := j) (x := some (.ref as[i])) (s := .ow (RRef as[i])) (M := fun _ => False) ⟨_, rfl, ⟨rfl, fun _ z => z⟩, fun _ z => z.elim⟩ (fun _ _ _ _ _ z => z.elim) (fun _ z => z.elim) (by rw [wipeD_len]; exact hj)
          have e4 : (wipeD δ1 [j]).set j (.ow (RRef as[i])) = δ1.set j (.ow (RRef as[i])) := by
            show (δ1.set j .non).set j _ = _
            rw [List.set_set]
          rw [e4] at q
          exact q
        show (if true = true then te ((wipe σ [j]).set j (some (.ref as[i]))) H3 (fun y H4 => ∃ acc, H4 D = some (HO.lst acc) ∧ acc.length < sizeLine ∧ Inv (i + 1) (upd H4 D (HO.lst (acc ++ [y])))) else Inv (i + 1) H3)
        rw [if_pos rfl]
        refine hs i _ acc (List.getElem?_eq_getElem hlt) pv B' H3 _ _ _ S3 fun y My s B4 H4 δ4 e4 f4 S5 hyd nMy ⟨ag4, yd, hsl, hlen, pn⟩ => ?_
        have hx4 : H4 D = some (.lst xs) := by rw [f4 D (.inr (.inl rfl))]; exact hx
        have eB : Ex B2 B4 := e'.trans e4
        have nDy : ∀ c, My c → c ≠ D := fun c z e => nMy c z (.inr (.inl e))
        have nDm : ∀ c, M1 c → c ≠ D := fun c z e => nM1 (e ▸ z)
        have hM4 : ∀ c, M1 c → H4 c = H3 c := fun c z => f4 c (.inr (.inr z))
        have T1 : TrA K B4 (upd H4 D (.lst (xs ++ [y]))) xs acc M1 := tra_mono e4 ha fun c z => by rw [upd_ne (nDm c z)]; exact hM4 c z
        have T2 : TrA K B4 (upd H4 D (.lst (xs ++ [y]))) [y] [yd] My := tra_mono (Ex.refl _) (slt_tra hyd hsl) fun c z => upd_ne (nDy c z)
        refine ⟨xs, hx4, Evl.sz_lt (by rw [tra_len ha]; exact hlen), B4, xs ++ [y], acc ++ [yd], fun c => M1 c ∨ My c, eB, fun a z => ?_, ?_, upd_same, tra_app T1 T2 (fun c z z2 => nMy c z2 (.inr (.inr z))) fun _ => Iff.rfl, fun z => z.elim nM1 fun z => nDy D z rfl, fun c z => z.elim (nMF c) fun z hf => nMy c z (.inl hf), pn⟩
        · rw [upd_ne (fun z2 => nF (by rw [← z2]; exact z)), f4 a (.inl z), f' a z]
        · have S6 : Sd K B4 H4 σ δ1 (fun a => (F a ∨ (a = D ∨ M1 a)) ∨ My a) := S'.unwipe (vs := [j]) S5 e4 agree ag4 hv
          obtain ⟨ms, h1, h2, h3, h4⟩ := S6.sl
          have hbD : B4 D = none := S6.fb D (.inl (.inr (.inl rfl)))
          have ex : Ex B4 (upd H4 D (.lst (xs ++ [y]))) := fun a u ha' => by
            rw [upd_ne (fun z => by rw [z, hbD] at ha'; cases ha')]
            exact S6.bh a u ha'
          have re : ∀ c, (F c ∨ (c = D ∨ (M1 c ∨ My c))) → ((F c ∨ (c = D ∨ M1 c)) ∨ My c) := fun c z => by
            rcases z with z | z | z | z
            · exact .inl (.inl z)
            · exact .inl (.inr (.inl z))
            · exact .inl (.inr (.inr z))
            · exact .inr z
          refine ⟨ex, S6.len, fun c z => S6.fb c (re c z), fun a z => ?_, ms, fun j s hs => ?_, h2, fun k c q z => h3 k c q (re c z), h4⟩
          · by_cases e5 : a = D
            · rw [e5, upd_same]; exact fun z => nomatch z
            · rw [upd_ne e5]; exact S6.fl a (re a z)
          · have q := h1 j s hs
            cases s with
            | non => exact q
            | pu x => exact q
            | ow R =>
              obtain ⟨v, ev, hP, hb'⟩ := q
              exact ⟨v, ev, R.loc hP (Ex.refl _) fun a z => upd_ne fun e5 => h3 j a z (.inl (.inr (.inl e5))), hb'⟩
            | al _ => exact q
    · have e1 : i = as.length := by omega
      subst e1
      exact .inl ⟨⟨_, SqL.of hl', by rw [List.length_map]; exact Nat.le_refl _⟩, kk (.ref D) (fun a => a = D ∨ M1 a) (.ow (RTr K acc)) B' H' δ1 (e.trans e') (fun a z => (f' a z).trans (f a z)) S' ⟨D, xs, M1, rfl, hx, ha, nM1, fun _ => Iff.rfl⟩ (fun a z z2 => z.elim (fun e => nF (e ▸ z2)) fun z => nMF a z z2) (hd acc pv)⟩
/-- a, b = (x, y), both owned, the pair laid -/
theorem xs_tup2 {i j : Nat} (h : EvA K tr δ fun ss δ1 => ∃ R1 R2, ss = [.ow R1, .ow R2] ∧ i < δ1.length ∧ j < δ1.length ∧ d.nx ((δ1.set i (.ow R1)).set j (.ow R2))) : ExS K (tAsg (tTup tr) (gTup K 2 (gCons (gName i) (gCons (gName j) gNil)))) d δ := fun B H σ F D S L =>
  h B H σ F _ S fun vs M ss B2 H2 δ1 e f S2 ha nF ⟨R1, R2, es, hi, hj, q⟩ => by
    subst es
    cases ha with
    | @cons v1 _ M1 vs1 _ M2 h1 n12 t =>
      cases t with
      | @cons v2 _ M3 vs2 _ M4 h2 n34 t =>
        cases t
        refine ⟨by show 2 ≤ sizeLine; rw [sizeLine_eq]; decide, fun T hT => ?_⟩
        have S0 := sd_own (o := .tup [v1, v2]) S2 hT
        have nT : ∀ c, H2 c ≠ none → c ≠ T := fun c hc e => hc (by rw [e]; exact hT)
        have h1' : R1.P v1 B2 (upd H2 T (.tup [v1, v2])) M1 := R1.loc h1 (Ex.refl _) fun c z => upd_ne (nT c (R1.live h1 c z))
        have h2' : R2.P v2 B2 (upd H2 T (.tup [v1, v2])) M3 := R2.loc h2 (Ex.refl _) fun c z => upd_ne (nT c (R2.live h2 c z))
        have S3 : Sd K B2 (upd H2 T (.tup [v1, v2])) σ δ1 (fun a => (F a ∨ M3 a) ∨ M1 a) := S0.less fun a z => .inl (z.elim (fun z => z.elim .inl fun z => .inr (.inr (.inl z))) fun z => .inr (.inl z))
        have S4 := S3.put_ow (i := i) h1' (fun a z f => f.elim (fun f => nF a (.inl z) f) fun f => n12 a z (.inl f)) hi
        have S5 := S4.put_ow (i := j) h2' (fun a z f => nF a (.inr (.inl z)) f) (by rw [List.length_set]; exact hj)
        refine ⟨T, [v1, v2], rfl, SqT.of upd_same, rfl, v1, [v2], rfl, v2, [], rfl, rfl, ?_⟩
        exact L.nx B2 _ _ _ e (fun c z => by rw [upd_ne (nT c (S2.fl c (.inl z))), f c z]) S5 q
/-- two lists in a list -/
def RTw (K : PySem.W.Frag) (la lb : List PyData) (D a1 a2 : Addr) : Res := RH K D [(D, .lst [.r a1, .r a2]), (a1, .lst (la.map .d)), (a2, .lst (lb.map .d))]
theorem rtr_two {la lb : List PyData} (ha : ∀ d ∈ la, NoL d) (hb : ∀ d ∈ lb, NoL d) : ∀ v B H M, (RTr K [.list la, .list lb]).P v B H M → ∃ j : Addr × Addr × Addr, (RTw K la lb j.1 j.2.1 j.2.2).P v B H M := fun v B H M hP => by
  obtain ⟨D, vs, M1, rfl, hD, ht, nD, hM⟩ := hP
  cases ht with
  | pu _ hn _ => cases hn with | flat f => cases f
  | @ow a1 us1 _ N1 N2 _ vs1 _ g1 t1 t2 n1 n2 nd hM1 =>
    cases t2 with
    | pu _ hn _ => cases hn with | flat f => cases f
    | @ow a2 us2 _ N3 N4 _ vs2 _ g2 t3 t4 n3 n4 nd2 hM2 =>
      cases t4 with
      | nil no =>
        obtain ⟨d1, z1⟩ := tra_no t1 ha
        obtain ⟨d2, z2⟩ := tra_no t3 hb
        have hm : ∀ c, M c ↔ c = D ∨ c = a1 ∨ c = a2 := fun c => by
          rw [hM c, hM1 c, hM2 c]
          constructor
          · rintro (z | z | z | z | z | z)
            · exact .inl z
            · exact .inr (.inl z)
            · exact (z1 c z).elim
            · exact .inr (.inr z)
            · exact (z2 c z).elim
            · exact (no c z).elim
          · rintro (z | z | z)
            · exact .inl z
            · exact .inr (.inl z)
            · exact .inr (.inr (.inr (.inl z)))
        have e1 : D ≠ a1 := fun e => nD ((hM1 D).mpr (.inl e))
        have e2 : D ≠ a2 := fun e => nD ((hM1 D).mpr (.inr (.inr ((hM2 D).mpr (.inl e)))))
        have e3 : a1 ≠ a2 := fun e => n2 ((hM2 a1).mpr (.inl e))
        refine ⟨(D, a1, a2), rfl, fun y hy => ?_, ?_, fun c => ?_⟩
        · rcases List.mem_cons.mp hy with rfl | hy
          · exact ⟨_, hD, .cons rfl (.cons rfl .nil)⟩
          rcases List.mem_cons.mp hy with rfl | hy
          · exact ⟨us1, g1, cva_data d1⟩
          · rw [List.mem_singleton.mp hy]
            exact ⟨us2, g2, cva_data d2⟩
        · show [D, a1, a2].Nodup
          simp only [List.nodup_cons, List.mem_cons, List.not_mem_nil, or_false, not_or, not_false_eq_true, List.nodup_nil, and_true]
          exact ⟨⟨e1, e2⟩, e3⟩
        · rw [hm c]
          show _ ↔ c ∈ [D, a1, a2]
          simp
theorem tw_at {la lb : List PyData} {D a1 a2 : Addr} : IsAt (RTw K la lb D a1 a2) D := rh_at
theorem tw_refs {la lb : List PyData} {D a1 a2 : Addr} : ShowsR (RTw K la lb D a1 a2) D [a1, a2] := shows_r (as := [a1, a2]) (List.mem_cons_self ..)
theorem tw_a {la lb : List PyData} {D a1 a2 : Addr} : Shows K (RTw K la lb D a1 a2) a1 la := shows_d (List.mem_cons_of_mem _ (List.mem_cons_self ..))
theorem tw_b {la lb : List PyData} {D a1 a2 : Addr} : Shows K (RTw K la lb D a1 a2) a2 lb := shows_d (List.mem_cons_of_mem _ (List.mem_cons_of_mem _ (List.mem_cons_self ..)))
end
end Dl

/-! Rk10: sorted of a set of ints, up to a thousand of them. -/
namespace Rk
open PySem PySem.Spec PyProof.Rows L2 PyProof.V
section
variable {P : Program} {w : World} {A : Around} {E : Value → Shared → Prop} {s : Shared} {a : Addr}
theorem sorted_setL {S : Int → Bool} {n : Nat} {Q : Value → Shared → Prop} (R : SetR w s.heap a S n) (hh : A.handled = none) (hz : n ≤ 1000)
    (hQ : ∀ s' p (out : Array Value) (c : Nat) (ns : List Int), (∀ b o, s.heap.get? b = some o → s'.heap.get? b = some o) → s'.gens = s.gens → s'.os = s.os → s.heap.objs.size ≤ p →
      s'.heap.get? p = some (seqObj "list" out c) → IntsAre out.toList ns → ns.Pairwise (· < ·) → (∀ k, k ∈ ns ↔ S k = true) → ns.length = n → Q (.ref p) s') :
    wpAny (model P w) A (call (.builtin "sorted") [.ref a]) Q E s := by
  obtain ⟨o, es, ep, t, ho, hex, hd, g, nd, hm, hb, hf, hn, hr, hl⟩ := R
  refine Calls.call_function_entry kind_sorted plain_sorted entry_sorted (args_sorted1 _) ?_
  unfold Builtin.«sorted»
  refine wpAny_bind (m := checkCount "sorted" 1 1 _) (wpAny_pure ?_)
  refine wpAny_bind (collect_set (A := A.in1) hh ⟨o, ho, hex.1, hd⟩ hf hb hr hl fun s1 vs k1 hz1 g1 o1 pm => ?_)
  have hvl : vs.length = n := by rw [pm.length_eq, List.length_map, Array.length_toList]; exact hn
  have hI : IntsAre vs (vs.map Builtin.Re.reRawOf) := ints_of vs fun v hv => by
    obtain ⟨e, he, q⟩ := List.mem_map.mp (pm.mem_iff.mp hv)
    obtain ⟨k, tk, h1, _⟩ := g e he
    exact ⟨k, tk, by rw [← q]; exact h1⟩
  have pk : (vs.map Builtin.Re.reRawOf).Perm (es.toList.map keyOf) := by
    have q := pm.map Builtin.Re.reRawOf
    rw [List.map_map] at q
    exact q
  have hvs : vs.length ≤ sizeLine := by rw [hvl, sizeLine_eq]; omega
  refine wpAny_bind (wpAny_newList ?_ hvs)
  have hoL : (s1.heap.push (seqObj "list" vs.toArray 0)).get? s1.heap.objs.size = some (seqObj "list" vs.toArray 0) := Heap.get?_push_size _ rfl
  refine wpAny_bind (wpAny_holding (wpAny_call_entry slot_list_sort ⟨_, hoL, rfl⟩ entry_list_sort (SrtO.list_sort_ord SrtO.swo_int hoL hvs (fun h2 => SrtO.ints_sortable hI h2) fun out a1 a2 => ⟨_, rfl, ?_⟩) (args_list_sort _)))
  obtain ⟨q1, q2, q3⟩ := SrtO.ints_out hI a1 a2
  obtain ⟨c, hc⟩ := sortedHeap_at (vs := vs) (out := out.toArray) hoL
  have pn : (out.map SrtO.iv).Perm (es.toList.map keyOf) := q2.trans pk
  refine wpAny_pure ⟨_, rfl, hQ _ s1.heap.objs.size out.toArray c (out.map SrtO.iv) (fun b u e => ?_) g1 o1 hz1 hc q1 (lt_of_le_nodup _ q3 (pn.nodup_iff.mpr nd)) (fun k => by rw [pn.mem_iff, ← hm k]) ?_⟩
  · have q := k1 b u e
    have hlt := Heap.lt_size q
    show (sortedHeap (s1.heap.push (seqObj "list" vs.toArray 0)) s1.heap.objs.size vs out.toArray).get? b = some u
    rw [sortedHeap_old (Nat.ne_of_lt hlt) (by rw [size_push']; exact Nat.lt_succ_of_lt hlt)]
    exact Heap.get?_push_of_some _ q
  · rw [pn.length_eq, List.length_map, Array.length_toList]; exact hn
end
def rSortedSetL (w : World) : List V → Hp → VK → Prop := fun vs H Q => ∃ (a : Addr) (S : Int → Bool) (n : Nat), vs = [V.ref a] ∧ H a = some (SetO w a S n) ∧ n ≤ 1000 ∧
  ∀ (ns : List Int) (p : Addr), ns.Pairwise (· < ·) → (∀ k : Int, k ∈ ns ↔ S k = true) → ns.length = n → H p = none → Q (.ref p) (upd H p (.lst (ns.map V.int)))
theorem cr_sortedSetL {X : Cx} {w : World} (hc : X.calm = true) (hw : X.w = w := by rfl) : CallR X (.builtin "sorted") (rSortedSetL w) := by
  subst hw
  intro pins s σ H vs us Q I r h
  obtain ⟨a, S, n, rfl, ha, hz, q⟩ := h
  have R := setO_get I ha
  rw [Vals.ref1 r]
  refine sorted_setL R (I.ok.hd hc) hz fun s' p out c ns k g o hp hg hi hs hm hl => ?_
  have hlen : (ns.map V.int).length ≤ sizeLine := by rw [List.length_map, hl, sizeLine_eq]; omega
  have hn : H p = none := I.hok.fresh hp
  have J : Inv X pins σ (upd H p (.lst (ns.map V.int))) { s with heap := s'.heap, gens := s'.gens, drawn := s'.drawn, toks := s'.toks } :=
    I.call (ch := []) (Un.laid k hp hn) (I.hok.laid k hp ⟨hlen, out.toList, c, vals_of_ints hi, hg⟩) (by rw [g]; exact I.bare) (fun _ z => nomatch z)
  have e : s' = { s with heap := s'.heap, gens := s'.gens, drawn := s'.drawn, toks := s'.toks } := by
    cases s'
    cases s
    cases o
    rfl
  rw [e]
  exact ⟨.ref p, _, J, rfl, q ns p hs hm hl hn⟩
end Rk

/-! Dl31: sorted(set(xs)) of up to a thousand ints; a, b = t of a new (x, list). -/
namespace Dl
open PySem PySem.Spec PyProof.Rows L2
open Evl (Ex)
section
variable {K : PySem.W.Frag} {w : World} {δ : List Slot} {te ta tb tc : TE} {tr : TA} {tt : TT} {t u : TS} {d : Dn} {Φ : Slot → List Slot → Prop} {ds : List PyData}
theorem ev_sortedSetL (h : EvS K te δ fun s δ1 => ∃ ns : List Int, (den K δ1 s (.list (ns.map PyData.int)) ∨ den K δ1 s (.tuple (ns.map PyData.int))) ∧ ns.length ≤ 1000 ∧ ∀ ns' : List Int, ns'.Pairwise (· < ·) → (∀ k, k ∈ ns' ↔ k ∈ ns) → Φ (.ow (RL K (ns'.map PyData.int))) δ1) : EvS K (tCB (Rk.rSortedSetL w) (tCons (tCB (Rk.rSetI K w) (tCons te tNil)) tNil)) δ Φ := fun B H σ F Q S kk =>
  h B H σ F _ S fun v M s B1 H1 δ1 e1 f1 S1 w1 n1 ⟨ns, hd, hl, q⟩ => by
    have hdr : Dr K B1 H1 v (.list (ns.map PyData.int)) ∨ Dr K B1 H1 v (.tuple (ns.map PyData.int)) := hd.imp (den_dr S1 w1) (den_dr S1 w1)
    obtain ⟨p, rfl, hs⟩ := seq_ints S1.bh hdr
    have SF : Sd K B1 H1 σ δ1 F := S1.less fun a ha => .inl ha
    refine ⟨p, ns, rfl, hs, by omega, fun r l hr hnd hmem => ?_⟩
    have hll := nodup_sub hnd fun k hk => (hmem k).mp hk
    refine ⟨r, _, l.length, rfl, upd_same, by omega, fun ns' r2 h1 h2 _ hr2 => ?_⟩
    have gr : Gr B1 H1 B1 (upd H1 r (SetO w r (fun j => decide (j ∈ ns)) l.length)) := Gr.own S1.bh hr
    have S2 := SF.grow gr
    refine kk (.ref r2) (fun a => a = r2) (.ow (RL K _)) B1 _ δ1 e1 (fun a ha => ?_) (sd_own S2 hr2) (rl_new (dpa_ints ns')) (fun a ha f => ?_) (q ns' h1 fun k => ?_)
    · rw [upd_ne (fun z => S2.fl a ha (by rw [z]; exact hr2)), ex_eq gr.h (SF.fl a ha), f1 a ha]
    · rw [ha] at f; exact S2.fl r2 f hr2
    · rw [h2 k, decide_eq_true_eq]
/-- what stands there is a pair: data, a list that is owned with it -/
def TwAt (K : PySem.W.Frag) (R : Res) (t : Addr) (x : PyData) (l : Addr) : Prop := ∀ v B H M, R.P v B H M → ∃ v0, v = .ref t ∧ H t = some (.tup [v0, .ref l]) ∧ Dp K B v0 x
theorem rh_tw {x : PyData} {t l : Addr} {cs : Cells} : TwAt K (RH K t ((t, .tup [.d x, .r l]) :: cs)) t x l := fun v B H M h => by
  obtain ⟨⟨vs, h1, h2⟩, _⟩ := RH.get h (a := t) (c := .tup [.d x, .r l]) (List.mem_cons_self ..)
  obtain rfl := h.1
  cases h2 with
  | @cons v0 _ _ _ hd0 r0 =>
    cases r0 with
    | cons hr1 r1 =>
      cases r1
      have hr1 : _ = V.ref l := hr1
      subst hr1
      exact ⟨_, rfl, h1, hd0⟩
theorem ev_isiTu {i : Nat} {R : Res} {t l : Addr} {x : PyData} (hi : δ[i]? = some (.ow R)) (ht : TwAt K R t x l) (h : Φ (.pu (.bool true)) δ) : EvS K (tCB (rIsi K) (tCons (tVar i) (tCons (tC (.ty "tuple")) tNil))) δ Φ := fun B H σ F Q S k => by
  obtain ⟨v, M, ev, hP, _⟩ := S.opn hi
  obtain ⟨v0, rfl, h1, _⟩ := ht _ _ _ _ hP
  refine ⟨_, ev, ?_⟩
  refine ⟨_, .ty "tuple", .type "tuple", .type "tuple", true, rfl, .ty "tuple", .base (.tup h1), kit_ty ?_, ?_⟩
  · have g := good_tuple (.tuple []) (fun _ e => nomatch e)
    rw [isi_tup (x := .tuple []) (fun _ e => nomatch e)] at g
    exact g
  · exact k _ (fun _ => False) (.pu (.bool true)) B H δ (Ex.refl _) (fun _ _ => rfl) (S.less fun c z => z.elim id False.elim) ⟨.bl _, fun _ z => z⟩ (fun _ z => z.elim) h
theorem ev_lenTu {i : Nat} {R : Res} {t l : Addr} {x : PyData} (hi : δ[i]? = some (.ow R)) (ht : TwAt K R t x l) (h : Φ (.pu (.int 2)) δ) : EvS K (tCB (fun xs H Q => ∃ p ys, xs = [V.ref p] ∧ (SqL K H p ys ∨ SqT K H p ys) ∧ Q (V.int ↑ys.length) H) (tCons (tVar i) tNil)) δ Φ := fun B H σ F Q S k => by
  obtain ⟨v, M, ev, hP, _⟩ := S.opn hi
  obtain ⟨v0, rfl, h1, _⟩ := ht _ _ _ _ hP
  refine ⟨_, ev, t, _, rfl, .inr (SqT.of h1), ?_⟩
  exact k _ (fun _ => False) (.pu (.int 2)) B H δ (Ex.refl _) (fun _ _ => rfl) (S.less fun c z => z.elim id False.elim) ⟨.int _, fun _ z => z⟩ (fun _ z => z.elim) h
theorem ev_ixTu {i : Nat} {R : Res} {t l : Addr} {x : PyData} (hi : δ[i]? = some (.ow R)) (ht : TwAt K R t x l) (h : Φ (.ow (RRef l)) δ) : EvS K (tOp (rIxT K) (tVar i) (tC (.int 1))) δ Φ := fun B H σ F Q S k => by
  obtain ⟨v, M, ev, hP, _⟩ := S.opn hi
  obtain ⟨v0, rfl, h1, _⟩ := ht _ _ _ _ hP
  exact ⟨_, ev, t, _, 1, .ref l, rfl, rfl, SqT.of h1, rfl, k (.ref l) (fun _ => False) (.ow (RRef l)) B H δ (Ex.refl _) (fun _ _ => rfl) (S.less fun c z => z.elim id False.elim) ⟨rfl, fun _ z => z⟩ (fun _ z => z.elim) h⟩
/-- a, b = t -/
theorem xs_unTu {i a b : Nat} {R : Res} {t l : Addr} {x : PyData} (hi : δ[i]? = some (.ow R)) (ht : TwAt K R t x l) (ha : a < δ.length) (hb : b < δ.length) (h : d.nx ((δ.set a (.pu x)).set b (.ow (RRef l)))) : ExS K (tAsg (tVar i) (gTup K 2 (gCons (gName a) (gCons (gName b) gNil)))) d δ := fun B H σ F D S L => by
  obtain ⟨v, M, ev, hP, _⟩ := S.opn hi
  obtain ⟨v0, rfl, h1, hd⟩ := ht _ _ _ _ hP
  refine ⟨_, ev, t, _, rfl, SqT.of h1, rfl, v0, _, rfl, .ref l, _, rfl, rfl, ?_⟩
  have S1 := S.put_pu (i := a) hd ha
  have S2 : Sd K B H ((σ.set a (some v0)).set b (some (.ref l))) ((δ.set a (.pu x)).set b (.ow (RRef l))) F := (S1.less fun c z => z).put (i := b) (x := some (.ref l)) (s := .ow (RRef l)) (M := fun _ => False) ⟨_, rfl, ⟨rfl, fun _ z => z⟩, fun _ z => z.elim⟩ (fun _ _ _ _ _ z => z.elim) (fun _ z => z.elim) (by rw [List.length_set]; exact hb)
  exact L.nx B H _ _ (Ex.refl _) (fun _ _ => rfl) S2 h
end
end Dl

/-! Xr1: own exception classes over an own class over ValueError: their making, their raising, what a suite asks of them. -/
namespace Xr
open PySem PySem.Spec PyProof.Rows L2
/-- K.__init__(self, ..), K an own class whose __init__ is ValueError's -/
theorem pe_ownInit {X : Cx} {x : Str} {C : Addr} {mc : Value} {e : Expr} {es : List Expr} {ta : TA} {p1 p2 pos : Pos} {pl : Sem Bool} (hg : Gl X x) (hm : X.mg x = some (.ref C)) (r : ClX.CRead X.K C mc) (ef : PySem.W.findCls X.K (.ref C) mc "__init__" = some (.val (.builtin "ValueError.__init__"))) (ha : PA X (e :: es) ta)
    (hc : eval (.Call (.Attribute (.Name x p1) "__init__" p2) (e :: es) [] pos) X.env = (do
      let ov ← eval (.Name x p1) X.env
      standAt p2.atName
      let (f, first) ← holding [ov] (getMethod ov "__init__" pl)
      callWith pos f first (backTo pos (starEach (e :: es) X.env)) (backToKw pos (keywordEach [] X.env))) := by rfl)
    (hdb : (x == ("__debug__" : Str)) = false := by decide) (he : starEach (e :: es) X.env = (false, eval e X.env) :: starEach es X.env := by rfl) (hpl : (backTo pos (starEach es X.env)).any (·.1) = false := by rfl) :
    PE X (.Call (.Attribute (.Name x p1) "__init__" p2) (e :: es) [] pos) (tVeI X.K ta) := by
  refine ⟨fun pins s σ H Q I h => ?_⟩
  refine PySem.W.methodCall_KW (pl := pl) (ld_glob I hg hm ?_ hdb) hc
  refine PySem.W.method_cls I.kIn r.ga (PySem.W.cls_value I.kIn r.rd ef (by decide +kernel) ?_)
  show wpAny _ _ (callWith pos (Value.builtin "ValueError.__init__") [] (backTo pos (starEach (e :: es) X.env)) []) _ _ _
  refine PyProof.Rows.callWith_method1 (thn (ha.run pos pins _ σ H _ (I.tok _) h) fun us s1 ⟨vs, H1, I1, r1, a, C, ws, ev, hl, T, ea, q⟩ => ?_) he hpl
  subst ev
  cases r1 with
  | @cons _ u0 _ ur ra rw' =>
    obtain rfl : u0 = Value.ref a := ra
    have hlen : ur.length ≤ sizeLine := by
      rw [← Paired.length rw', sizeLine_eq]
      omega
    exact oinit_ok T I1 ea hlen fun s' J => ⟨.non, H1, J, rfl, q⟩
/-! ### what a suite asks -/
/-- the caught exception's own dict stands -/
def DOk (H : Hp) (d : Option Addr) : Prop := d = none ∨ ∃ (dd : Addr) (fs : List (Str × V)), d = some dd ∧ H dd = some (.xd fs)
def rIsX (K : PySem.W.Frag) (cls : Value) (d : Option Addr) (a : Addr) : List V → Hp → VK → Prop := fun xs H Q => ∃ (c : V) (cv : Value) (b : Bool) (D : Addr), xs = [.ref a, c] ∧ cls = .ref D ∧ ExcC K D ∧ DOk H d ∧ (∀ u, RelV c u → u = cv) ∧ PySem.W.kitOne K (.ref D) cv = some b ∧ Q (.bl b) H
theorem call_isX {X : Cx} {a : Addr} {oe : Obj} {cls : Value} {d : Option Addr} {pn : List (Addr × Obj)} (hz : Zc cls d oe) (hf : ∃ vs, oe.data = .fields vs) : CallR (X.suite a ((a, oe) :: pn)) (.builtin "isinstance") (rIsX X.K cls d a) := by
  intro pins s σ H xs us Q I r h
  obtain ⟨c, cv, b, D, rfl, rfl, C, dk, hcv, e, q⟩ := h
  cases r with
  | cons rx rr =>
    cases rr with
    | cons rt rr =>
      cases rr
      cases rx
      have ec := hcv _ rt
      subst ec
      obtain ⟨hget, _⟩ := I.pin (a, oe) (List.mem_append.mpr (.inl List.mem_cons_self))
      obtain ⟨vs, hv⟩ := hf
      have hcl : (PySem.W.clsIn X.K D).isSome = true := by obtain ⟨cd, hc, _⟩ := PySem.W.any_some C.hd; rw [hc]; rfl
      have J : ∃ od, PySem.W.InstAt s.heap a oe D od := by
        obtain ⟨oc, odi, oda, osl⟩ := oe
        obtain ⟨h1, h2⟩ := hz
        dsimp only at h1 h2 hv
        subst h1 h2 hv
        rcases dk with rfl | ⟨dd, fs, rfl, hd⟩
        · exact ⟨none, hget, rfl, rfl, trivial⟩
        · obtain ⟨mA, ⟨o, es, ep, ho, hr⟩, _⟩ := (show ObjOk X.prog X.w H s.heap dd (.xd fs) from I.hok dd _ hd)
          exact ⟨some o, hget, rfl, rfl, ho⟩
      obtain ⟨od, J⟩ := J
      exact PySem.W.kia_one (PySem.W.kitx_exc (od := od) hcl C.hg C.hk C.hs C.ha C.hn C.ht C.hm) I.kIn J e (fun z => nomatch z) fun tk => ⟨.bl b, H, I.kept (t' := tk) fun _ _ z => z, rfl, q⟩
/-- e.f, e the caught exception -/
def tXg (K : PySem.W.Frag) (a : Addr) (cls : Value) (d : Option Addr) (f : Str) (te : TE) : TE := fun σ H Q => te σ H fun x H1 => x = .ref a ∧ ∃ (C dd : Addr) (fs : List (Str × V)) (v : V), cls = .ref C ∧ XfC K C ∧ PySem.W.findIn K (.ref C) f = some none ∧ d = some dd ∧ H1 dd = some (.xd fs) ∧ fs.lookup f = some v ∧ Q v H1
theorem pe_xg {X : Cx} {a : Addr} {oe : Obj} {cls : Value} {d : Option Addr} {pn : List (Addr × Obj)} {e : Expr} {te : TE} {pos : Pos} {n : Str}
    (hz : Zc cls d oe) (hf : ∃ vs, oe.data = .fields vs) (he : PE (X.suite a ((a, oe) :: pn)) e te) (hb : attributeBase e n X.env (eval e X.env) = eval e X.env := by rfl) :
    PE (X.suite a ((a, oe) :: pn)) (.Attribute e n pos) (tXg X.K a cls d n te) := by
  refine ⟨fun pins s σ H Q I h => ?_⟩
  refine attr_of hb (thn (he.run pins s σ H _ I h) fun u s1 hh => ?_)
  obtain ⟨x, H1, I1, rx, ex, C, dd, fs, v, ec, T, hno, ed, ea, l, q⟩ := hh
  subst ex
  obtain rfl : u = Value.ref a := rx
  subst ec
  subst ed
  obtain ⟨ha, _⟩ := I1.pin (a, oe) (List.mem_append_left _ List.mem_cons_self)
  obtain ⟨vs, hd⟩ := hf
  have hx : ObjOk X.prog X.w H1 s1.heap dd (.xd fs) := I1.hok dd _ ea
  obtain ⟨mA, hns, hr⟩ := hx
  obtain ⟨od, ho, hl⟩ := lookIn_ns hns
  obtain ⟨u, hu, ru⟩ := RelO.some_of (v := v) (o := mA n) (by rw [← l]; exact hr n)
  have J : PySem.W.InstAt s1.heap a oe C (some od) := ⟨ha, hz.1, by unfold PySem.W.notCls; rw [hd] <;> rfl, by rw [hz.2]; exact ho⟩
  exact HandSPX.exc_get I1.kIn J T.ga T.gg T.exC (PySem.W.findObj_own T.hdC hno rfl (by rw [hl, hu])) (handed_of ru) ⟨v, H1, I1.tok _, ru, q⟩
theorem xf_of {K : PySem.W.Frag} {C : Addr} (h : ExcC K C) : XfC K C := ⟨h.hg, h.hk, h.hs, h.hd⟩
/-! ### making, raising -/
def spInit (C : Addr) (f : Str) : Sp := fun vs H Q _ => ∃ (a : Addr) (v : V), vs = [.ref a, v] ∧ H a = some (exo a C none) ∧ ∀ dx, H dx = none → dx ≠ a → Q .non (upd (upd H dx (exd dx [(f, v)])) a (exo a C (some dx)))
theorem spInit_len {C : Addr} {f : Str} {vs : List V} {H : Hp} {Q : VK} {E : XK} (h : spInit C f vs H Q E) : vs.length = 2 := by
  obtain ⟨a, v, rfl, _⟩ := h
  rfl
/-- what __init__ does: Base.__init__(self, f); self.f = f -/
def t_init (K : PySem.W.Frag) (f : Str) : TS := tSeq (tDrop (tVeI K (tCons (tVar 0) (tCons (tVar 1) tNil)))) (tOst K f (tVar 0) (tVar 1))
theorem init_walk {K : PySem.W.Frag} {C : Addr} {f : Str} {N : List Str} {vs : List V} {H : Hp} {Q : VK} {E : XK} (T : OexC K C) (hno : PySem.W.findIn K (.ref C) f = some none) (h : spInit C f vs H Q E) : t_init K f { nx := fun _ H' => Q .non H', rt := Q } (start N vs) H := by
  obtain ⟨a, v, rfl, ea, q⟩ := h
  refine ⟨_, rfl, _, rfl, a, C, [v], rfl, by show 1 ≤ 1000; decide, T, ea, ?_⟩
  exact ⟨_, rfl, _, rfl, a, C, rfl, T, hno, .inl ⟨ea, fun dx h1 h2 => q dx h1 h2⟩⟩
/-- a class x with a field f, at C -/
structure XTxt (P : Program) (w : World) (K : PySem.W.Frag) (mg : Str → Option Value) (base : Heap) (x f : Str) (C : Addr) : Prop where
  gC : mg x = some (.ref C)
  oex : OexC K C
  is : ExcC K C
  nf : PySem.W.findIn K (.ref C) f = some none
  ini : ∃ (fI : Addr) (fd : FuncData), FnOk P w K mg base CX0 1 fI fd ["self", f] (spInit C f) ∧ PySem.W.findIn K (.ref C) "__init__" = some (some (.ref fI)) ∧ PySem.W.typeIn K (.ref fI) = some (.type "function") ∧ Binds K fd ["self", f] []
/-- behind the arguments: x(v) is made, with a dict of its own -/
theorem made {C : Addr} {f : Str} {v : V} {H1 : Hp} {Q : XK} (q : ∀ d, H1 d = none → Q (.ref C) (some d) (upd H1 d (.xd [(f, v)]))) :
    ([v] : List V).length ≤ 1000 ∧ ∀ a, H1 a = none → spInit C f (.ref a :: ([v] ++ [])) (upd H1 a (exo a C none))
      (fun u H2 => u = .non ∧ ∃ (d : Addr) (fs : List (Str × V)), H2 a = some (exo a C (some d)) ∧ H2 d = some (exd d fs) ∧ H1 d = none ∧ Q (.ref C) (some d) (upd (L2.del H2 a) d (.xd fs))) (fun _ _ _ => False) := by
  refine ⟨by show 1 ≤ 1000; decide, fun a ha => ⟨a, v, rfl, upd_same, fun dx h1 h2 => ⟨rfl, dx, [(f, v)], upd_same, ?_, ?_, ?_⟩⟩⟩
  · rw [upd_ne h2, upd_same]
  · rw [upd_ne h2] at h1; exact h1
  · have e : upd (L2.del (upd (upd (upd H1 a (exo a C none)) dx (exd dx [(f, v)])) a (exo a C (some dx))) a) dx (.xd [(f, v)]) = upd H1 dx (.xd [(f, v)]) := by
      funext b
      by_cases hb : b = dx
      · rw [hb, upd_same, upd_same]
      · rw [upd_ne hb, upd_ne hb]
        by_cases hba : b = a
        · rw [hba, L2.del_same, ha]
        · rw [L2.del_ne hba, upd_ne hba, upd_ne hb, upd_ne hba]
    rw [e]
    rw [upd_ne h2] at h1
    exact q dx h1
/-- raise x(e) -/
def tRaiseX (C : Addr) (f : Str) (W : WX) (ta : TA) : TS := fun _ σ H => tMkO C (spInit C f) [] ta σ H fun cls d H' => W cls d σ H'
section
variable {X : Cx}
theorem ps_raiseX {x f : Str} {C : Addr} {W : WX} {e : Expr} {es : List Expr} {ta : TA} {p pos pos2 : Pos} (T : XTxt X.prog X.w X.K X.mg X.base x f C) (hc : X.calm = true) (tk : Takes X W) (hr : Room 2 X.A) (ha : PA X (e :: es) ta) (hg : Gl X x)
    (hdb : (x == ("__debug__" : Str)) = false := by decide) (he : starEach (e :: es) X.env = (false, eval e X.env) :: starEach es X.env := by rfl) (hpl : (backTo pos (starEach es X.env)).any (·.1) = false := by rfl) :
    PS X (.Raise (some (.Call (.Name x p) (e :: es) [] pos)) none pos2) (tRaiseX C f W ta) := by
  obtain ⟨fI, fd, F, iC, tI, hb⟩ := T.ini
  exact ps_raise hc tk (pmk_oex T.oex iC tI F hr hb .nil pass0 hg T.gC ha hdb he hpl)
end
/-- a class x without fields, at C -/
structure XTxt0 (K : PySem.W.Frag) (mg : Str → Option Value) (x : Str) (C : Addr) : Prop where
  gC : mg x = some (.ref C)
  ex : PySem.W.excIn K C [.type "ValueError", .type "Exception", .type "BaseException", .type "object"] "ValueError.__new__" = true
  kC : PySem.W.keepIn K (.ref C) = true
  bC : PySem.W.subIn K (.ref C) (.type "BaseException") = some true
  tC : PySem.W.typeIn K (.ref C) = some (.type "type")
  is : ExcC K C
/-- raise x('..') -/
def tRaise0 (C : Addr) (W : WX) : TS := fun _ σ H => W (.ref C) none σ H
theorem ps_raise0 {X : Cx} {x m : Str} {C : Addr} {W : WX} {j : Nat} {p p2 pos pos2 : Pos} (T : XTxt0 X.K X.mg x C) (hc : X.calm = true) (tk : Takes X W) (hg : Gl X x) (hdb : (x == ("__debug__" : Str)) = false := by decide) :
    PS X (.Raise (some (.Call (.Name x p) [.Constant (.str m) j p2] [] pos)) none pos2) (tRaise0 C W) :=
  ps_raise hc tk (pmk_own PySem.F.excBase_ValueError T.ex T.gC T.kC (raises_own T.bC T.tC) hg hdb)
end Xr

/-! Dl34: defs that may raise. -/
namespace Dl
open PySem PySem.Spec PyProof.Rows L2
open Evl (Ex)
/-- what is raised -/
inductive Xc where
  | plan (d : PyData) | ring (d : PyData) | service | beats | log (d : PyData) | text (d : PyData)
/-- where the classes stand -/
structure XA where
  keep : Addr
  plan : Addr
  ring : Addr
  service : Addr
  beats : Addr
  log : Addr
  text : Addr
def xcAt (A : XA) : Xc → Addr
  | .plan _ => A.plan | .ring _ => A.ring | .service => A.service | .beats => A.beats | .log _ => A.log | .text _ => A.text
def xcF : Xc → Option (Str × PyData)
  | .plan d => some ("number", d) | .ring d => some ("ring", d) | .log d => some ("row", d) | .text d => some ("row", d) | _ => none
def xp (K : PySem.W.Frag) (A : XA) (x : Xc) : XP := fun B H cls d => cls = .ref (xcAt A x) ∧ (xcF x = none ∧ d = none ∨ ∃ f z dd v, xcF x = some (f, z) ∧ d = some dd ∧ H dd = some (.xd [(f, v)]) ∧ Dp K B v z ∧ B dd = none)
/-- a def that changes nothing, and may raise -/
def spX (K : PySem.W.Frag) (n : Nat) (pre : List PyData → Prop) (T : List PyData → Rt → Prop) (R : List PyData → XP → Prop) : Sp := fun vs H Q E =>
  ∃ B ds, Ex B H ∧ DpAll K B vs ds ∧ ds.length = n ∧ pre ds ∧ (∀ v B2 H2 r, Gr B H B2 H2 → RtOk K H B2 H2 v r → T ds r → Q v H2) ∧ ∀ p B2 H2 cls d, Gr B H B2 H2 → R ds p → p B2 H2 cls d → E cls d H2
theorem spX_len {K : PySem.W.Frag} {n : Nat} {pre : List PyData → Prop} {T : List PyData → Rt → Prop} {R : List PyData → XP → Prop} {vs : List V} {H : Hp} {Q : VK} {E : XK} (h : spX K n pre T R vs H Q E) : vs.length = n := by
  obtain ⟨B, ds, _, ha, hn, _⟩ := h
  rw [dpa_len ha, hn]
section
variable {K : PySem.W.Frag} {δ : List Slot} {te ta tb tc : TE} {tr : TA} {tt : TT} {t u : TS} {d : Dn} {n : Nat} {pre : List PyData → Prop} {T : List PyData → Rt → Prop} {R : List PyData → XP → Prop} {E : XK}
/-- f(..), a statement of its own, f may raise -/
theorem xs_dropX (h : EvDs K tr δ fun ds δ1 => ds.length = n ∧ pre ds ∧ (∀ r, T ds r → d.nx δ1) ∧ ∀ p, R ds p → d.ex E p) : ExS K (tDrop (tCall (spX K n pre T R) [] E tr)) d δ := fun B H σ F D S L =>
  h B H σ F _ S fun vs ds B2 H2 δ1 e f S2 ha ⟨hn, hp, q1, q2⟩ => by
    show spX K n pre T R (vs ++ []) H2 _ E
    rw [List.append_nil]
    have f3 : ∀ {B3 H3}, Gr B2 H2 B3 H3 → ∀ a, F a → H3 a = H a := fun g a z => (ex_eq g.h (S2.fl a z)).trans (f a z)
    exact ⟨B2, ds, S2.bh, ha, hn, hp, fun v B3 H3 r g hr hT => L.nx B3 H3 σ δ1 (e.trans g.b) (f3 g) (S2.grow g) (q1 r hT), fun p B3 H3 cls dd g hR w => L.ex E p B3 H3 σ δ1 cls dd (e.trans g.b) (f3 g) (S2.grow g) (q2 p hR) w⟩
/-- raise x(e) -/
theorem xs_raiseX {C : Addr} {f : Str} (h : EvDs K tr δ fun ds _ => ∃ z p, ds = [z] ∧ d.ex E p ∧ ∀ B H dd v, H dd = some (.xd [(f, v)]) → Dp K B v z → B dd = none → p B H (.ref C) (some dd)) : ExS K (Xr.tRaiseX C f (fun cls d _ H => E cls d H) tr) d δ := fun B H σ F D S L =>
  h B H σ F _ S fun vs ds B2 H2 δ1 e f2 S2 ha ⟨z, p, ed, hp, q⟩ => by
    subst ed
    cases ha with
    | @cons v _ _ _ hv t =>
      cases t
      refine Xr.made fun dd hd => ?_
      have g := Gr.own (o := .xd [(f, v)]) S2.bh hd
      exact L.ex E p B2 _ σ δ1 _ _ e (fun a z => (ex_eq g.h (S2.fl a z)).trans (f2 a z)) (S2.grow g) hp (q B2 _ dd v upd_same hv (exnone S2.bh hd))
theorem xs_raise0 {C : Addr} (h : ∃ p, d.ex E p ∧ ∀ B H, p B H (.ref C) none) : ExS K (Xr.tRaise0 C (fun cls d _ H => E cls d H)) d δ := fun B H σ F D S L => by
  obtain ⟨p, hp, q⟩ := h
  exact L.ex E p B H σ δ _ _ (Ex.refl _) (fun _ _ => rfl) S hp (q B H)
end
/-! ### a def's body keeps its promise -/
abbrev DnX (K : PySem.W.Frag) (E : XK) (T : Rt → Prop) (R : XP → Prop) : Dn := { nx := fun _ => T (.d .none), rt := RtS K T, ex := fun E' p => E' = E ∧ R p }
theorem body_X {K : PySem.W.Frag} {n : Nat} {pre : List PyData → Prop} {T : List PyData → Rt → Prop} {R : List PyData → XP → Prop} {N : List Str} {vs : List V} {H : Hp} {Q : VK} {E : XK} {t : TS} (h : spX K n pre T R vs H Q E)
    (hx : ∀ ds, ds.length = n → pre ds → ExS K t (DnX K E (T ds) (R ds)) (ds.map Slot.pu ++ List.replicate (N.length - ds.length) Slot.non)) : t { nx := fun _ H' => Q .non H', rt := Q } (L2.start N vs) H := by
  obtain ⟨B, ds, eB, ha, hn, hp, q, q2⟩ := h
  refine hx ds hn hp B H (L2.start N vs) (FrB B H) _ (sd_start eB ha) ⟨fun B2 H2 σ2 δ2 e f S p => q .non B2 H2 (.d .none) (gr_end eB e f S) .non p, fun _ _ _ _ _ _ _ z => z.elim, fun _ _ _ _ _ _ _ z => z.elim, fun v M s B2 H2 σ2 δ2 e f S w n p => ?_, fun E' p B2 H2 σ2 δ2 cls dd e f S ⟨eE, hR⟩ w => by subst eE; exact q2 p B2 H2 cls dd (gr_end eB e f S) hR w⟩
  have S' : Sd K B2 H2 σ2 δ2 (FrB B H) := S.less fun a z => .inl z
  have g := gr_end eB e f S'
  rcases p with ⟨z, rfl, hT⟩ | ⟨zs, hs, hT⟩
  · exact q v B2 H2 (.d z) g w.1 hT
  · rcases hs with rfl | ⟨i, rfl, hi⟩
    · obtain ⟨p, xs, rfl, h3, hx, hM⟩ := w
      have hb : B2 p = none := S.fb p (.inr ((hM p).mpr rfl))
      refine q _ B2 H2 (.l zs) g ⟨p, xs, rfl, ?_, hb, h3, hx⟩ hT
      cases hh : H p with
      | none => rfl
      | some u => exact absurd ⟨nn_of hh, exnone e hb⟩ (n p ((hM p).mpr rfl))
    · obtain ⟨v', M', ev, ⟨p, xs, rfl, h3, hx, hM⟩, hb, hF, _⟩ := S'.opn hi
      rw [w.1] at ev
      cases ev
      have hb' : B2 p = none := hb p ((hM p).mpr rfl)
      refine q _ B2 H2 (.l zs) g ⟨p, xs, rfl, ?_, hb', h3, hx⟩ hT
      cases hh : H p with
      | none => rfl
      | some u => exact absurd ⟨nn_of hh, exnone e hb'⟩ (hF p ((hM p).mpr rfl))
/-! ### such a def by its name -/
structure CalX (P : Program) (w : World) (K : PySem.W.Frag) (mg : Str → Option Value) (base : Heap) (k : Nat) (x : Str) (sp : Sp) : Prop where
  ex : ∃ (f : Addr) (fd : FuncData) (ps : List Str), FnOk P w K mg base (L2.CX P w) k f fd ps sp ∧ mg x = some (.ref f) ∧ PySem.W.keepIn K (.ref f) = true ∧ Binds K fd ps []
theorem pe_cX {X : Cx} {k j : Nat} {x : Str} {sp : Sp} {E : XK} {p pos : Pos} {e : Expr} {es : List Expr} {t : TA} (c : CalX X.prog X.w X.K X.mg X.base k x sp) (hr : Room j X.A) (hx : Passes (L2.CX X.prog X.w) X E) (ha : PA X (e :: es) t) (hk : k ≤ j := by decide) (hg : Gl X x := by rfl)
    (hdb : (x == ("__debug__" : Str)) = false := by decide) (he : starEach (e :: es) X.env = (false, eval e X.env) :: starEach es X.env := by rfl) (hpl : (backTo pos (starEach es X.env)).any (·.1) = false := by rfl) :
    PE X (.Call (.Name x p) (e :: es) [] pos) (tCall sp [] E t) := by
  obtain ⟨f, fd, ps, F, hm, kp, b⟩ := c.ex
  exact pe_call F (hr.mono hk) hg hm kp b .nil hx ha hdb he hpl
theorem calX {P : Program} {w : World} {K : PySem.W.Frag} {mg : Str → Option Value} {base : Heap} {x : Str} {st : Stmt} {N ps : List Str} {k n : Nat} {pre : List PyData → Prop} {T : List PyData → Rt → Prop} {R : List PyData → XP → Prop}
    (D : Df K mg x st ps) (S : FnScope N ps (defScope st)) (hn : ps.length = n)
    (hbody : ∀ (f : Addr) (cdv : Value) (A : Around) (outer : List Env) (s : Shared) (H : Hp) (E : XK), Room k (A.deeper (envOfC x (defScope st) s.heap.objs.size f cdv)) →
      ∃ t, PSs (cxOf (L2.CX P w) P w K mg base N x (defScope st) f cdv A outer s H E) (defBody st) t ∧ ∀ ds, ds.length = n → pre ds → ExS K t (DnX K E (T ds) (R ds)) (ds.map Slot.pu ++ List.replicate (N.length - ds.length) Slot.non)) : CalX P w K mg base (k + 1) x (spX K n pre T R) := by
  obtain ⟨f, fd, F, hm, hb⟩ := D.ex
  refine ⟨f, fd, ps, F.okX S (fun vs H Q E h => by rw [spX_len h, hn]) (fun cdv A outer s H vs Q E hr h => ?_), hm, F.kp, hb⟩
  obtain ⟨t, ht, hx⟩ := hbody f cdv A outer s H E hr
  exact ⟨t, ht, body_X h hx⟩
theorem passX {P : Program} {w : World} {K : PySem.W.Frag} {mg : Str → Option Value} {base : Heap} {N : List Str} {x : Str} {sc : Scope} {f : Addr} {cdv : Value} {A : Around} {outer : List Env} {s : Shared} {H : Hp} {E : XK} : Passes (L2.CX P w) (cxOf (L2.CX P w) P w K mg base N x sc f cdv A outer s H E) E := passes_call (takes_of rfl rfl rfl rfl) fun _ _ _ _ h => h
end Dl

/-! Dl35: < of data that are alike. -/
namespace Rk
open PySem PySem.W PySem.SeqAt PySem.Spec PyProof.Rows L2
def rLtD (K : PySem.W.Frag) : R2 := fun x y H Q => ∃ d e, Dp K H x d ∧ Dp K H y e ∧ alike d e = true ∧ d ≠ .none ∧ min d.depth e.depth ≤ 60 ∧ Q (.bl (dataLt d e)) H
theorem op_ltD {X : Cx} (hu : X.A.units + 64 < cLine) : OpR X (compareOp .Lt) (rLtD X.K) := by
  intro pins s σ H x y v u Q I rx ry h
  obtain ⟨d, e, hd, he, al, hn, hp, q⟩ := h
  obtain ⟨as, r1⟩ := Dp.reads I d x v hd rx
  obtain ⟨bs, r2⟩ := Dp.reads I e y u he ry
  exact lt_data r1 r2 al hn (by omega) ⟨.bl _, H, I, rfl, q⟩
end Rk
namespace Kk
open PySem PySem.W PySem.Spec PyProof.Rows L2
theorem op_ltD {X : Cx} {K : PySem.W.Frag} (a : X.A.units + 64 < cLine) (h : X.K = K := by rfl) : OpR X (compareOp .Lt) (Rk.rLtD K) := h ▸ Rk.op_ltD a
end Kk
namespace Dl
open PySem PySem.Spec PyProof.Rows L2
open Evl (Ex)
theorem ev_ltD {K : PySem.W.Frag} {ta tb : TE} {δ : List Slot} {Φ : Slot → List Slot → Prop} (h : EvS K ta δ fun s1 δ1 => EvS K tb δ1 fun s2 δ2 => ∃ x y, den K δ2 s1 x ∧ den K δ2 s2 y ∧ PySem.W.alike x y = true ∧ x ≠ .none ∧ min x.depth y.depth ≤ 60 ∧ Φ (.pu (.bool (PySem.W.dataLt x y))) δ2) : EvS K (tOp (Rk.rLtD K) ta tb) δ Φ :=
  ev_opP (h.imp fun s1 δ1 h1 => h1.imp fun s2 δ2 ⟨x, y, e1, e2, c1, c2, c3, q⟩ => ⟨x, y, .bool (PySem.W.dataLt x y), e1, e2, opP_flat rfl fun B H u v Q e d1 d2 k => ⟨x, y, d1.dp e, d2.dp e, c1, c2, c3, k⟩, q⟩)
theorem ev_sortedSetLJ {K : PySem.W.Frag} {w : World} {δ : List Slot} {te : TE} {Φ : Slot → List Slot → Prop} (h : EvS K te δ fun s δ1 => ∃ ns : List Int, (den K δ1 s (.list (ns.map PyData.int)) ∨ den K δ1 s (.tuple (ns.map PyData.int))) ∧ ns.length ≤ 4094 ∧ (∀ l : List Int, l.Nodup → (∀ k, k ∈ l → k ∈ ns) → l.length ≤ 1000) ∧ ∀ ns' : List Int, ns'.Pairwise (· < ·) → (∀ k, k ∈ ns' ↔ k ∈ ns) → Φ (.ow (RL K (ns'.map PyData.int))) δ1) : EvS K (tCB (Rk.rSortedSetL w) (tCons (tCB (Rk.rSetI K w) (tCons te tNil)) tNil)) δ Φ := fun B H σ F Q S kk =>
  h B H σ F _ S fun v M s B1 H1 δ1 e1 f1 S1 w1 n1 ⟨ns, hd, hl, hle, q⟩ => by
    have hdr : Dr K B1 H1 v (.list (ns.map PyData.int)) ∨ Dr K B1 H1 v (.tuple (ns.map PyData.int)) := hd.imp (den_dr S1 w1) (den_dr S1 w1)
    obtain ⟨p, rfl, hs⟩ := seq_ints S1.bh hdr
    have SF : Sd K B1 H1 σ δ1 F := S1.less fun a ha => .inl ha
    refine ⟨p, ns, rfl, hs, by omega, fun r l hr hnd hmem => ?_⟩
    have hll := hle l hnd fun k hk => (hmem k).mp hk
    refine ⟨r, _, l.length, rfl, upd_same, by omega, fun ns' r2 h1 h2 _ hr2 => ?_⟩
    have gr : Gr B1 H1 B1 (upd H1 r (SetO w r (fun j => decide (j ∈ ns)) l.length)) := Gr.own S1.bh hr
    have S2 := SF.grow gr
    refine kk (.ref r2) (fun a => a = r2) (.ow (RL K _)) B1 _ δ1 e1 (fun a ha => ?_) (sd_own S2 hr2) (rl_new (dpa_ints ns')) (fun a ha f => ?_) (q ns' h1 fun k => ?_)
    · rw [upd_ne (fun z => S2.fl a ha (by rw [z]; exact hr2)), ex_eq gr.h (SF.fl a ha), f1 a ha]
    · rw [ha] at f; exact S2.fl r2 f hr2
    · rw [h2 k, decide_eq_true_eq]
end Dl

/-! Dl36: text * 0 or 1; xs[::-1]. -/
namespace Rk
open PySem PySem.W PySem.SeqAt PySem.Spec PyProof.Rows L2
def rRep01 : R2 := fun x y H Q => ∃ (z : Str) (b : Bool), x = .str z ∧ y = .int (if b = true then 1 else 0) ∧ Q (.str (if b = true then z else Str.empty)) H
theorem op_rep01 {X : Cx} : OpR X (binaryOp .Mult) rRep01 := by
  intro pins s σ H x y v u Q I rx ry h
  obtain ⟨z, b, rfl, rfl, q⟩ := h
  obtain ⟨t, rfl⟩ := rx
  obtain ⟨t', rfl⟩ := ry
  cases b with
  | false =>
    exact PySem.P.mul_str_none (by decide) (by decide) ⟨.str Str.empty, H, I.tok _, ⟨_, rfl⟩, q⟩
  | true =>
    refine PySem.P.mul_str (n := 1) (by decide) (fun _ h => ?_) (fun _ h => ?_) ?_
    · exact absurd h (by simp)
    · exact absurd h (by simp)
    · rw [if_neg (by decide), if_pos (by simp)]
      exact ⟨.str z, H, I, ⟨_, rfl⟩, q⟩
end Rk
namespace Kk
open PySem PySem.W PySem.Spec PyProof.Rows L2
theorem pe_revL {X : Cx} {K : PySem.W.Frag} {e : Expr} {te : TE} {k : Nat} {p1 p2 p3 pos : Pos} (he : PE X e te) (h : X.K = K := by rfl) : PE X (.Subscript e (.Slice none none (some (.UnaryOp .USub (.Constant (.int 1) k p1) p2)) p3) pos) (tRevL K te) := h ▸ L2.pe_revL he
end Kk
namespace Dl
open PySem PySem.Spec PyProof.Rows L2
open Evl (Ex)
section
variable {K : PySem.W.Frag} {ta tb te : TE} {δ : List Slot} {Φ : Slot → List Slot → Prop}
theorem ev_rep01 (h : EvS K ta δ fun s1 δ1 => EvS K tb δ1 fun s2 δ2 => ∃ (z : Str) (b : Bool), s1 = .pu (.str z) ∧ s2 = .pu (.int (if b = true then 1 else 0)) ∧ Φ (.pu (.str (if b = true then z else Str.empty))) δ2) : EvS K (tOp Rk.rRep01 ta tb) δ Φ :=
  ev_opP (h.imp fun s1 δ1 h1 => h1.imp fun s2 δ2 ⟨z, b, e1, e2, q⟩ => ⟨.str z, .int (if b = true then 1 else 0), .str (if b = true then z else Str.empty), .inl e1, .inl e2, opP_flat rfl fun B H u v Q e d1 d2 k => ⟨z, b, dr_str d1, dr_int d2, k⟩, q⟩)
theorem ev_revL (h : EvS K te δ fun s δ1 => ∃ ds, den K δ1 s (.list ds) ∧ Φ (.ow (RL K ds.reverse)) δ1) : EvS K (tRevL K te) δ Φ := fun B H σ F Q S kk =>
  h B H σ F _ S fun v1 M1 s1 B1 H1 δ1 e1 f1 S1 w1 n1 ⟨ds, hd, q⟩ => by
    obtain ⟨p, xs, rfl, hs, ha⟩ := (den_dr S1 w1 hd).lst S1.bh
    have SF : Sd K B1 H1 σ δ1 F := S1.less fun a ha => .inl ha
    refine ⟨p, xs, rfl, hs, fun r hr => ?_⟩
    refine kk (.ref r) (fun a => a = r) (.ow (RL K _)) B1 _ δ1 e1 (fun a ha => ?_) (sd_own SF hr) (rl_new (dpa_rev ha)) (fun a ha f => ?_) q
    · rw [upd_ne (fun z => SF.fl a ha (by rw [z]; exact hr)), f1 a ha]
    · rw [ha] at f; exact SF.fl r f hr
theorem ev_slS {tl th : TO} (h : EvS K ta δ fun s δ1 => EvO K tl δ1 fun lo δ2 => EvO K th δ2 fun hi δ3 => ∃ z : Str, s = .pu (.str z) ∧ z.length ≤ sizeLine ∧ Φ (.pu (.str (cutS z lo hi))) δ3) : EvS K (tSl rSlS ta tl th) δ Φ := fun B H σ F Q S kk =>
  h B H σ F _ S fun v1 M1 s1 B1 H1 δ1 e1 f1 S1 w1 n1 p1 => p1 B1 H1 σ _ _ S1 fun lo B2 H2 δ2 e2 f2 S2 p2 => p2 B2 H2 σ _ _ S2 fun hi B3 H3 δ3 e3 f3 S3 ⟨z, es, hz, q⟩ => by
    subst es
    have w1' := dp_mono (e2.trans e3) _ _ w1.1
    have SF : Sd K B3 H3 σ δ3 F := S3.less fun a ha => .inl ha
    cases w1' with
    | str x =>
      exact ⟨z, rfl, hz, kk _ (fun _ => False) (.pu (.str (cutS z lo hi))) B3 H3 δ3 ((e1.trans e2).trans e3) (fun a z => by rw [f3 a (.inl z), f2 a (.inl z), f1 a z]) (SF.less fun a z => z.elim id False.elim) ⟨.str _, fun _ z => z⟩ (fun _ z => z.elim) q⟩
end
end Dl

/-! Dl37: the facts of an own exception class with an own __init__(self, f). -/
namespace Dl
open PySem PySem.Spec PyProof.Rows L2
/-- the class x at C, its __init__ -/
structure DfX (K : PySem.W.Frag) (mg : Str → Option Value) (C : Addr) (x f qual : Str) (st : Stmt) : Prop where
  gC : mg x = some (.ref C)
  oex : OexC K C
  is : ExcC K C
  nf : PySem.W.findIn K (.ref C) f = some none
  ex : ∃ fI fd, Fun K "__init__" qual st fI fd ∧ PySem.W.findIn K (.ref C) "__init__" = some (some (.ref fI)) ∧ PySem.W.typeIn K (.ref fI) = some (.type "function") ∧ Binds K fd ["self", f] []
/-- the own class above: its __init__ is ValueError's -/
structure DfB (K : PySem.W.Frag) (mg : Str → Option Value) (C : Addr) (x : Str) : Prop where
  gC : mg x = some (.ref C)
  ex : ∃ mc, ClX.CRead K C mc ∧ PySem.W.findCls K (.ref C) mc "__init__" = some (.val (.builtin "ValueError.__init__"))
theorem txtX {P : Program} {w : World} {K : PySem.W.Frag} {mg : Str → Option Value} {base : Heap} {C : Addr} {x f qual : Str} {st : Stmt} (D : DfX K mg C x f qual st) (S : FnScope ["self", f] ["self", f] (defScope st))
    (hb : ∀ (fI : Addr) (cdv : Value) (A : Around) (outer : List Env) (s : Shared) (H : Hp) (E : XK), PSs (cxOf CX0 P w K mg base ["self", f] qual (defScope st) fI cdv A outer s H E).nox (defBody st) (Xr.t_init K f)) : Xr.XTxt P w K mg base x f C := by
  obtain ⟨fI, fd, F, iC, tI, b⟩ := D.ex
  exact ⟨D.gC, D.oex, D.is, D.nf, fI, fd, F.ok S (fun vs H Q E h => Xr.spInit_len h) (fun cdv A outer s H vs Q E hr h => ⟨_, hb fI cdv A outer s H E, Xr.init_walk D.oex D.nf h⟩), iC, tI, b⟩
end Dl

/-! Lm1: lambdas as tracked things: their making (without or with one default), their call by a def that holds them. -/
namespace Lmx
open PySem PySem.Spec PyProof.Rows L2 LamX
/-- a lambda's words, the cells that it captured, its code object, its defaults -/
structure LF where
  qual : Str
  params : Arguments
  body : Expr
  scope : Scope
  cl : List (Str × Addr)
  c : Addr
  dV : Value
abbrev LF.fd (F : LF) (doc pm ctv : Value) : FuncData := PySem.W.kdv_fn "<lambda>" F.qual F.params (.expr F.body) F.scope F.cl F.dV doc pm (.ref F.c) ctv
/-- the object at f is the lambda F -/
def FnL (f : Addr) (F : LF) : HO := .ext fun h => ∃ (od : Option Addr) (sl : Array (Option Value)) (doc pm ctv : Value), h.get? f = some (⟨.type "function", od, .func (F.fd doc pm ctv), sl⟩ : Obj)
theorem fnL_ne {f : Addr} {F : LF} (ps : Array Value) : FnL f F ≠ .tbl ps := fun z => by
  unfold FnL at z
  cases z
theorem fnL_at {P : Program} {w : World} {H : Hp} {h : Heap} {f : Addr} {F : LF} (hok : HOk P w H h) (e : H f = some (FnL f F)) : ∃ (od : Option Addr) (sl : Array (Option Value)) (doc pm ctv : Value), h.get? f = some (⟨.type "function", od, .func (F.fd doc pm ctv), sl⟩ : Obj) := by
  obtain ⟨z, _, _⟩ := hok f _ e
  exact z
theorem codeO_at {P : Program} {w : World} {H : Hp} {h : Heap} {c : Addr} {q : Str} (hok : HOk P w H h) (e : H c = some (CodeO c q)) : h.CodeRec (.ref c) q := by
  obtain ⟨⟨oc, vs, t, h1, h2, h3⟩, _, _⟩ := hok c _ e
  exact ⟨c, oc, vs, t, rfl, h1, h2, h3⟩
/-- all code objects that the table at P tells bear the name q -/
def Told (H : Hp) (ps : Array Value) (q : Str) : Prop := ∀ (pos : Pos) (cv : Value), codeAmong pos ps.toList = some cv → ∃ c, cv = .ref c ∧ H c = some (CodeO c q)
/-- how the heap stands behind the making -/
def MadeL (H : Hp) (P : Addr) (ps : Array Value) (q : Str) (f c' : Addr) (ps' : Array Value) : Prop :=
  H f = none ∧ f ≠ c' ∧ f ≠ P ∧ c' ≠ P ∧ (H c' = none ∨ ∃ pos, codeAmong pos ps.toList = some (.ref c')) ∧ TriplesOk ps'.toList ∧ ∀ (pos : Pos) (cv : Value), codeAmong pos ps'.toList = some cv → codeAmong pos ps.toList = some cv ∨ cv = .ref c'
def afterL (H : Hp) (P : Addr) (q : Str) (F : LF) (f c' : Addr) (ps' : Array Value) : Hp := upd (upd (upd H P (.tbl ps')) c' (CodeO c' q)) f (FnL f F)
theorem upd_self {H : Hp} {a : Addr} {o : HO} (h : H a = some o) : upd H a o = H := by
  funext b
  unfold upd
  split
  · rename_i e; rw [e, h]
  · rfl
theorem ne_of_none' {H : Hp} {a b : Addr} {o : HO} (h : H a = none) (h' : H b = some o) : a ≠ b := by
  intro e; subst e; rw [h] at h'; cases h'
section
variable {X : Cx} {pins : List (Addr × Obj)} {σ : L2.St} {H : Hp} {s : Shared}
theorem inv_fnL {F : LF} {o : Obj} {t' : Nat} {doc pm ctv : Value} (I : Inv X pins σ H s) (ho : o = { cls := .type "function", data := .func (F.fd doc pm ctv) }) :
    Inv X pins σ (upd H s.heap.objs.size (FnL s.heap.objs.size F)) { s with heap := s.heap.push o, toks := t' } := by
  subst ho
  refine I.laid (a := s.heap.objs.size) (fun b u e => Heap.get?_push_of_some _ e) (Nat.le_refl _) ?_
  have e : (s.heap.push ({ cls := .type "function", data := .func (F.fd doc pm ctv) } : Obj)).get? s.heap.objs.size = some ({ cls := .type "function", data := .func (F.fd doc pm ctv) } : Obj) := Heap.get?_push_size _ rfl
  exact ⟨⟨_, _, doc, pm, ctv, e⟩, ⟨_, e⟩, fun h1 h2 ⟨od, sl, d, p, t, z⟩ st => ⟨od, sl, d, p, t, st _ z⟩⟩
/-- the tail of the making: the code object is new, or found in the table -/
theorem tail_make {c P : Addr} {params : Arguments} {body : Expr} {scope : Scope} {pos : Pos} {dV : Value} {ps : Array Value} {E : Value → Shared → Prop} {Q : Value → Shared → Prop} (I : Inv X pins σ H s) (TB : TabB X.base X.mg c P) (hcode : X.env.code = .ref c)
    (hP : H P = some (.tbl ps)) (ht : TriplesOk ps.toList) (ha : Told H ps (X.env.qual ++ "<lambda>")) (hfree : ∀ y ∈ scope.names, y.2 = .free → ∃ c, X.env.cells.lookup y.1 = some c)
    (h : ∀ (f c' : Addr) (ps' : Array Value) (s' : Shared), MadeL H P ps (X.env.qual ++ "<lambda>") f c' ps' →
      Inv X pins σ (afterL H P (X.env.qual ++ "<lambda>") ⟨X.env.qual ++ "<lambda>", params, body, scope, cloFrom X.env.cells scope.names [], c', dV⟩ f c' ps') s' → Q (.ref f) s') :
    wpAny (model X.prog X.w) X.A (makeTail "<lambda>" (X.env.qual ++ "<lambda>") params (.expr body) scope X.env dV .none none pos pos.line) Q E s := by
  have bP : s.heap.BuiltinsAt X.mg P := TB.bm.keeps I.bk
  have hP' : s.heap.get? P = some { cls := .none, data := .fields ps } := I.hok P _ hP
  cases hc : codeAmong pos ps.toList with
  | none =>
    refine PySem.W.kdv_makeTail (mg := X.mg) (c := c) (P := P) (ps := ps) (closure_ok hfree) I.ok.glob (I.mod.glob.keeps I.bk) hcode (TB.code.keeps I.bk) hP' ht hc TB.gP bP fun c' ctv doc h' tk hx hge hlt hrec htb => ?_
    obtain ⟨c2, oc, vs, t, e2, hoc, hd, hv⟩ := hrec
    cases e2
    have nC : H c' = none := I.hok.fresh hge
    have I1 := inv_table (t' := tk) (more := #[rawInt pos.line, rawInt pos.col, .ref c']) (h' := h') I hP (fun b o hb e => hx b o hb e) htb hge ⟨oc, vs, t, hoc, hd, hv⟩
    have eL : (ps ++ #[rawInt pos.line, rawInt pos.col, .ref c']).toList = ps.toList ++ [rawInt pos.line, rawInt pos.col, .ref c'] := by simp
    have I2 := inv_fnL (F := ⟨X.env.qual ++ "<lambda>", params, body, scope, cloFrom X.env.cells scope.names [], c', dV⟩) (t' := tk) (doc := doc) (pm := (X.mg "__name__").getD .none) (ctv := ctv) I1 rfl
    refine h h'.objs.size c' (ps ++ #[rawInt pos.line, rawInt pos.col, .ref c']) _ ⟨I.hok.fresh (Nat.le_trans hge (Nat.le_of_lt hlt)), Nat.ne_of_gt hlt, ne_of_none' (I.hok.fresh (Nat.le_trans hge (Nat.le_of_lt hlt))) hP, ne_of_none' nC hP, .inl nC, by rw [eL]; exact PySem.TriplesOk_snoc _ _ _ _ ht, fun p' cv hcv => ?_⟩ I2
    rw [eL] at hcv
    exact among_app _ ht hcv
  | some cv =>
    obtain ⟨c', e, hco⟩ := ha pos cv hc
    subst e
    refine PySem.W.kdv_makeTailHit (mg := X.mg) (c := c) (P := P) (ps := ps) (closure_ok hfree) I.ok.glob (I.mod.glob.keeps I.bk) hcode (TB.code.keeps I.bk) hP' ht hc bP fun ctv doc h' tk hx hsz => ?_
    have I1 : Inv X pins σ H { s with heap := h', toks := tk } := I.kept hx
    have nF : H h'.objs.size = none := I1.hok.fresh (Nat.le_refl _)
    have I2 := inv_fnL (F := ⟨X.env.qual ++ "<lambda>", params, body, scope, cloFrom X.env.cells scope.names [], c', dV⟩) (t' := tk) (doc := doc) (pm := (X.mg "__name__").getD .none) (ctv := ctv) I1 rfl
    have ePc : c' ≠ P := fun z => by
      rw [z, hP] at hco
      exact codeO_ne ps (Option.some.inj hco).symm
    refine h h'.objs.size c' ps _ ⟨nF, ne_of_none' nF hco, ne_of_none' nF hP, ePc, .inr ⟨pos, hc⟩, ht, fun p' cv hcv => .inl hcv⟩ ?_
    show Inv X pins σ (upd (upd (upd H P (.tbl ps)) c' (CodeO c' (X.env.qual ++ "<lambda>"))) h'.objs.size _) _
    rw [upd_self hP, upd_self hco]
    exact I2
end
/-- a lambda is made; without a default, or with one, a number -/
def tLamb (P : Addr) (q : Str) (mk : Addr → Value → LF) (dn : Option Int) : TE := fun σ H Q => ∃ ps, H P = some (.tbl ps) ∧ TriplesOk ps.toList ∧ Told H ps q ∧
  ∀ (H0 : Hp) (dV : Value), (dn = none ∧ dV = .none ∧ H0 = H ∨ ∃ n t, dn = some n ∧ dV = .ref t ∧ H t = none ∧ H0 = upd H t (.tup [.int n])) → ∀ (f c' : Addr) (ps' : Array Value), MadeL H0 P ps q f c' ps' → Q (.ref f) (afterL H0 P q (mk c' dV) f c' ps')
section
variable {X : Cx}
theorem pe_lamb0 {c P : Addr} {params : Arguments} {body : Expr} {scope : Scope} {pos : Pos} (TB : TabB X.base X.mg c P) (hcode : X.env.code = .ref c) (hfree : X.Ok → ∀ y ∈ scope.names, y.2 = .free → ∃ c, X.env.cells.lookup y.1 = some c) (hdef : defaultsOf params X.env = ([], [])) :
    PE X (.Lambda params body scope pos) (tLamb P (X.env.qual ++ "<lambda>") (fun c' dV => ⟨X.env.qual ++ "<lambda>", params, body, scope, cloFrom X.env.cells scope.names [], c', dV⟩) none) := by
  refine ⟨fun pins s σ H Q I h => ?_⟩
  obtain ⟨ps, hP, ht, ha, q⟩ := h
  refine PySem.W.kla_eval hdef ?_
  rw [makeFunction_eq]
  simp only [List.zip_nil_right, List.filterMap_nil, List.isEmpty_nil, if_true, pure_bind]
  exact tail_make I TB hcode hP ht ha (hfree I.ok) fun f c' ps' s' m I' => ⟨.ref f, _, I', rfl, q H .none (.inl ⟨rfl, rfl, rfl⟩) f c' ps' m⟩
theorem pe_lamb1 {c P : Addr} {params : Arguments} {body : Expr} {scope : Scope} {pos p1 : Pos} {n : Int} {k : Nat} (TB : TabB X.base X.mg c P) (hcode : X.env.code = .ref c) (hfree : X.Ok → ∀ y ∈ scope.names, y.2 = .free → ∃ c, X.env.cells.lookup y.1 = some c) (hd : params.defaults = [.Constant (.int n) k p1]) (hk0 : params.kw_defaults = []) :
    PE X (.Lambda params body scope pos) (tLamb P (X.env.qual ++ "<lambda>") (fun c' dV => ⟨X.env.qual ++ "<lambda>", params, body, scope, cloFrom X.env.cells scope.names [], c', dV⟩) (some n)) := by
  refine ⟨fun pins s σ H Q I h => ?_⟩
  obtain ⟨ps, hP, ht, ha, q⟩ := h
  refine PySem.W.kdv_lam (by rw [hd]; rfl) hk0 ?_
  rw [hd]
  refine PySem.W.kdv_all1 (wpAny_mono ((pe_int (X := X)).run pins s σ H (fun v H1 => v = .int n ∧ H1 = H) I ⟨rfl, rfl⟩) (fun u s1 hh => ?_) fun _ _ x => x)
  obtain ⟨v, H1, I1, r1, ev, eH⟩ := hh
  subst ev
  rw [eH] at I1
  refine PySem.W.kdv_all0 ?_
  rw [makeFunction_eq]
  simp only [List.zip_nil_right, List.filterMap_nil, List.isEmpty_nil, List.isEmpty_cons, Bool.false_eq_true, if_false, if_true, pure_bind]
  refine wpAny_bind (wpAny_newTextTuple ?_)
  have nT : H s1.heap.objs.size = none := I1.hok.fresh (Nat.le_refl _)
  have I2 : Inv X pins σ (upd H s1.heap.objs.size (.tup [.int n])) { s1 with heap := s1.heap.push { cls := .type "tuple", data := .seq [u].toArray } } :=
    I1.laid (t' := s1.toks) (fun b o e => Heap.get?_push_of_some _ e) (Nat.le_refl _) ⟨by show 1 ≤ sizeLine; rw [sizeLine_eq]; decide, [u], .cons r1 .nil, ⟨_, Heap.get?_push_size _ rfl, rfl, _, rfl⟩⟩
  have hP2 : upd H s1.heap.objs.size (.tup [.int n]) P = some (.tbl ps) := by rw [upd_ne (ne_of_none hP nT)]; exact hP
  have ha2 : Told (upd H s1.heap.objs.size (.tup [.int n])) ps (X.env.qual ++ "<lambda>") := fun pos cv hcv => by
    obtain ⟨c0, e1, e2⟩ := ha pos cv hcv
    exact ⟨c0, e1, by rw [upd_ne (ne_of_none e2 nT)]; exact e2⟩
  exact tail_make I2 TB hcode hP2 ht ha2 (hfree I.ok) fun f c' ps' s' m I' => ⟨.ref f, _, I', rfl, q _ _ (.inr ⟨n, _, rfl, rfl, nT, rfl⟩) f c' ps' m⟩
end
end Lmx

/-! Lm2: a lambda that a def holds is called there; a def is called with a lambda. -/
namespace Lmx
open PySem PySem.Spec PyProof.Rows L2 LamX
/-- the lambda's names: captured ones, globals, and own ones that nobody reads -/
structure LamT (N : List Str) (sc scope : Scope) : Prop where
  kind : scope.kind = .function
  co : scope.isCoroutine = false
  gen : scope.isGenerator = false
  own : ∀ y ∈ scope.names, y.2 ≠ .cell ∧ (y.2 = .local → y.1 ∉ N)
  free : ∀ y ∈ scope.names, y.2 = .free → sc.names.lookup y.1 = some .cell ∨ sc.names.lookup y.1 = some .free
def lamTB (N : List Str) (sc scope : Scope) : Bool :=
  decide (scope.kind = .function) && !scope.isCoroutine && !scope.isGenerator && scope.names.all fun y => !decide (y.2 = .cell) && (!decide (y.2 = .local) || !N.contains y.1) && (!decide (y.2 = .free) || decide (sc.names.lookup y.1 = some .cell) || decide (sc.names.lookup y.1 = some .free))
theorem lamT_by {N : List Str} {sc scope : Scope} (h : lamTB N sc scope = true) : LamT N sc scope := by
  unfold lamTB at h
  simp only [Bool.and_eq_true, Bool.or_eq_true, Bool.not_eq_true', decide_eq_true_eq, decide_eq_false_iff_not, List.all_eq_true] at h
  obtain ⟨⟨⟨h1, h2⟩, h3⟩, h4⟩ := h
  refine ⟨h1, h2, h3, fun y hy => ⟨(h4 y hy).1.1, fun e hm => ?_⟩, fun y hy e => ?_⟩
  · rcases (h4 y hy).1.2 with z | z
    · exact z e
    · rw [List.contains_iff_mem.mpr hm] at z
      cases z
  · rcases (h4 y hy).2 with (z | z) | z
    · exact absurd e z
    · exact .inl z
    · exact .inr z
theorem LamT.has {X : Cx} {scope : Scope} {N : List Str} (L : LamT N X.env.scope scope) (ok : X.Ok) : ∀ y ∈ scope.names, y.2 = .free → ∃ c, X.env.cells.lookup y.1 = some c := fun y hy e => by
  rcases L.free y hy e with k | k
  · exact ok.has _ (.inl k)
  · exact ok.has _ (.inr k)
/-- the default stands -/
def DefOk (H : Hp) (dV : Value) : Option Int → Prop
  | none => dV = .none
  | some n => ∃ t, dV = .ref t ∧ H t = some (.tup [.int n])
/-- a lambda stands at f -/
structure AtL (H : Hp) (f : Addr) (F : LF) (dn : Option Int) : Prop where
  fn : H f = some (FnL f F)
  co : H F.c = some (CodeO F.c F.qual)
  de : DefOk H F.dV dn
section
variable {X : Cx} {pins : List (Addr × Obj)} {σ : L2.St} {H HZ : Hp} {s s1 : Shared}
theorem lam_start3 {A : Around} {outer : List Env} {E : XK} {scope : Scope} {f c' : Addr} {h₁ : Heap} {tk : Nat} {binds : List (Str × Value)} (I : Inv X pins σ H s) (L : LamT X.N X.env.scope scope) (e0 : Env0 X.prog X.w X.K X.mg X.base A outer s1 HZ) (hd : A.handled = none)
    (un : Un (frs X.stack) [] H HZ s.heap s1.heap) (hns : h₁.Ns s1.heap.objs.size fun y => binds.reverse.lookup y) (kp : ∀ b o, s1.heap.get? b = some o → h₁.get? b = some o) :
    Inv (lamCx X A outer s1 HZ E scope f c') [] σ HZ { s1 with heap := h₁, toks := tk } := by
  have hfree := L.has I.ok
  have cm : ∀ {y c}, (cloFrom X.env.cells scope.names []).lookup y = some c → X.env.cells.lookup y = some c := fun {y c} e => by
    rcases cloFrom_mem (PySem.mem_of_lookup e) with hm | ⟨h1, h2⟩
    · cases hm
    · obtain ⟨c1, hc⟩ := hfree _ h1 rfl
      have hc : X.env.cells.lookup y = some c1 := hc
      have e2 : c = c1 := by
        rw [h2, hc] <;> rfl
      rw [e2]
      exact hc
  have look : ∀ {y}, scope.names.lookup y = some .free → ∃ c, (cloFrom X.env.cells scope.names []).lookup y = some c := fun {y} hl => by
    have hy : (y, NameKind.free) ∈ scope.names := PySem.mem_of_lookup hl
    exact mem_lookup (cloFrom_has (cells := X.env.cells) (acc := []) hy)
  have cellK : ∀ {c : Addr} {v : Option Value}, H c = none → s.heap.IsCell c v → h₁.IsCell c v := fun {c v} n ⟨o, ho, hd⟩ => by
    obtain ⟨sl, q⟩ := un.any ho n (by simp)
    exact ⟨_, kp _ _ q, hd⟩
  have noA : ∀ b : Addr, b ∉ (lamCx X A outer s1 HZ E scope f c').ex := fun b z => absurd (show b ∈ ([] : List Addr) from z) (by simp)
  refine ⟨⟨e0.mod, L.kind, rfl, rfl, Nat.le_refl _, fun y z c e1 e2 => I.ok.inj y z c (cm e1) (cm e2), fun y hy => ?_, fun y c z _ => ?_, fun _ => hd, Around.frames_deeper e0.frames, .inr ⟨rfl, rfl⟩, fun b z => absurd z (noA b), e0.bs, e0.bsz, fun b _ _ => noA b,
      fun b z => absurd z (noA b), e0.funs, e0.frf⟩,
    rfl, e0.bare, Un.kept kp, ⟨_, hns, fun i y v e1 e2 e3 => ?_⟩, fun y c e => ?_, e0.hok.fresh (Nat.le_refl _), fun y c e => ?_, fun q hq => absurd (show q ∈ ([] : List (Addr × Obj)) ++ [] from hq) (by simp), e0.hok.kept kp, I.len⟩
  · have hy : scope.names.lookup y = some .cell ∨ scope.names.lookup y = some .free := hy
    rcases hy with hy | hy
    · exact absurd rfl (L.own _ (PySem.mem_of_lookup hy)).1
    · exact look hy
  · have z : false = true := z
    cases z
  · have e3 : Vis scope y := e3
    have e1 : X.N[i]? = some y := e1
    rcases e3 with k | k | k
    · exact absurd (List.mem_of_getElem? e1) ((L.own _ (PySem.mem_of_lookup k)).2 rfl)
    · exact absurd rfl (L.own _ (PySem.mem_of_lookup k)).1
    · obtain ⟨m, hn, hl⟩ := I.loc
      have hvis : Vis X.env.scope y := (L.free _ (PySem.mem_of_lookup k) rfl).elim (fun k => .inr (.inl k)) (fun k => .inr (.inr k))
      obtain ⟨w', r, q⟩ := hl i y v e1 e2 hvis
      obtain ⟨c2, h2⟩ := look k
      refine ⟨w', r, .inr ⟨.inr k, c2, h2, ?_⟩⟩
      have c1 := cm h2
      rcases q with ⟨k', _⟩ | ⟨_, c3, e', z⟩
      · have k' : X.env.scope.names.lookup y = some .local := k'
        rcases L.free _ (PySem.mem_of_lookup k) rfl with k2 | k2 <;> rw [show X.env.scope.names.lookup y = _ from k2] at k' <;> cases k'
      · rw [c1] at e'
        cases e'
        exact cellK (I.freeC y _ c1) z
  · obtain ⟨w', z⟩ := I.cell y c (cm e)
    exact ⟨w', cellK (I.freeC y c (cm e)) z⟩
  · obtain ⟨v, o, ho, hd⟩ := I.cell y c (cm e)
    exact un.free c o ho (I.freeC y c (cm e)) (by simp)
/-- how the lambda's arguments are bound: its default, if it has one -/
def BindL (F : LF) (dn : Option Int) : Prop := ∀ (doc pm ctv : Value), match dn with
  | none => F.dV = .none → bindArgs (F.fd doc pm ctv) ⟨[], []⟩ = pure []
  | some _ => ∃ (x : Str) (k : Option (Array Value) → Sem (List (Str × Value))), bindArgs (F.fd doc pm ctv) ⟨[], []⟩ = seqItems? F.dV >>= k ∧ (∀ u, k (some #[u]) = pure [(x, u)]) ∧ F.scope.names.lookup x = some .local
theorem bind_L {P : Program} {w : World} {F : LF} {dn : Option Int} (b : BindL F dn) (hok : HOk P w HZ s1.heap) (d : DefOk HZ F.dV dn) (doc pm ctv : Value) : ∃ binds, BindsTo s1 (F.fd doc pm ctv) ⟨[], []⟩ binds ∧ ∀ y ∈ binds, F.scope.names.lookup y.1 = some .local := by
  have b := b doc pm ctv
  cases dn with
  | none => exact ⟨[], .of_eq (b d), fun _ h => nomatch h⟩
  | some n =>
    obtain ⟨x, k, e1, e2, e3⟩ := b
    obtain ⟨t, et, ht⟩ := d
    obtain ⟨_, its, rv, o, ho, hc, m, hd⟩ := hok t _ ht
    cases rv with
    | cons r rr =>
      cases rr
      refine ⟨_, BindsTo.of_defaults (fd := F.fd doc pm ctv) et ho hd e1 (e2 _), fun y hy => ?_⟩
      rw [List.mem_singleton.mp hy]
      exact e3
/-- x(), in the def that got the lambda: Z is that def's context, entered at s -/
theorem pe_act3 {CXg : CXT} {Eg : XK} {Ng : List Str} {qg : Str} {sg : Scope} {g f : Addr} {cdg : Value} {F : LF} {dn : Option Int} {k i : Nat} {a : Str} {pn : List (Addr × Obj)} {xe : Value → Shared → Prop} {W : WX} {E : L2.St → XK} {tb : XK → TE} {p1 p2 : Pos}
    (I : Inv X pins σ H s) (L : LamT X.N X.env.scope F.scope) (hcl : F.cl = cloFrom X.env.cells F.scope.names []) (hq : F.qual = X.env.qual ++ "<lambda>") (hb : BindL F dn)
    (tk : Takes ((cxOf CXg X.prog X.w X.K X.mg X.base Ng qg sg g cdg X.A X.stack s H Eg).tr pn xe) W) (hW : ∀ cls d σ' H', E σ' cls d H' → W cls d σ' H') (hr : Room (k + 1) (X.A.deeper (envOfC qg sg s.heap.objs.size g cdg)))
    (hbody : ∀ (E : XK) (A : Around) (outer : List Env) (s : Shared) (H : Hp), Room k (A.deeper (lamEnv X F.scope s.heap.objs.size f F.c)) → PE (lamCx X A outer s H E F.scope f F.c) F.body (tb E))
    (hN : Ng[i]? = some a) (hv : Vis sg a) (hd : (a == ("__debug__" : Str)) = false := by decide) (hcd : (a == ("__classdict__" : Str)) = false := by decide) :
    PE ((cxOf CXg X.prog X.w X.K X.mg X.base Ng qg sg g cdg X.A X.stack s H Eg).tr pn xe) (.Call (.Name a p1) [] [] p2)
      (fun σZ HZ Q => σZ[i]? = some (some (.ref f)) ∧ AtL HZ f F dn ∧ tb (E σZ) σ HZ Q) := by
  refine ⟨fun pinsZ sZ σZ HZ Q IZ h => ?_⟩
  obtain ⟨hs, hc, ht⟩ := h
  refine wpAny_Call_Name_kw (thn ((pe_var (pos := p1) (i := i) hN hv hd hcd).run pinsZ sZ σZ HZ (fun v H1 => v = .ref f ∧ H1 = HZ) IZ ⟨.ref f, hs, rfl, rfl⟩) fun u s1 ⟨v, H1, I1, r1, q1⟩ => ?_)
  obtain ⟨ev, eH⟩ := q1
  subst ev
  rw [eH] at I1
  obtain rfl : u = Value.ref f := r1
  obtain ⟨od, sl, doc, pm, ctv, of1⟩ := fnL_at I1.hok hc.fn
  refine PySem.W.callWith_F0 ⟨_, _, _, _, of1⟩ ?_
  have un : Un (frs X.stack) [] H HZ s.heap s1.heap := I1.base
  have hcode := codeO_at I1.hok hc.co
  obtain ⟨binds, bt, bl⟩ := bind_L (s1 := s1) hb I1.hok hc.de doc pm ctv
  have rc : codeAny (model X.prog X.w) (X.A.deeper (envOfC qg sg s.heap.objs.size g cdg)) (.call (.ref f) ⟨[], []⟩) (CR (L2.CX X.prog X.w) (envOfC qg sg s.heap.objs.size g cdg :: X.stack) X.prog X.w HZ s1 Q (E σZ)) s1 := by
    refine PySem.W.kla_callFunE hr.depth of1 rfl L.co L.gen rfl hcode (bt _ _ _ _ ?_)
    refine wpAny_newFunctionEnv (fun y hy => (L.own y hy).1) bl (fun h₁ hns hsb => ⟨I1.nolimit.fresh _ hsb, ?_⟩) L.kind
    show codeAny _ _ (.expr F.body (PySem.W.envX F.qual F.scope s1.heap.objs.size f (.ref F.c) F.cl)) _ _
    rw [hq, hcl]
    show codeAny _ _ (.expr F.body (lamEnv X F.scope s1.heap.objs.size f F.c)) _ _
    have kp : ∀ b o, s1.heap.get? b = some o → h₁.get? b = some o := fun b o e => hsb.extBut b o (Nat.ne_of_lt (Heap.lt_size e)) (Heap.get?_push_of_some _ e)
    have J : Inv (lamCx X (X.A.deeper (envOfC qg sg s.heap.objs.size g cdg)) (envOfC qg sg s.heap.objs.size g cdg :: X.stack) s1 HZ (E σZ) F.scope f F.c) [] σ HZ { s1 with heap := h₁, toks := s1.toks + binds.length } :=
      lam_start3 I L I1.env0 hr.hd un hns kp
    refine PySem.W.kla_codeExpr (wpAny_mono ((hbody _ _ _ s1 HZ (hr.deeper _)).run [] _ _ HZ Q J ht) (fun v s' hq => ?_) fun e s' hq => hq)
    obtain ⟨w', H', J', rv, q⟩ := hq
    exact ⟨w', H', J'.os, J'.bare, J'.base, J'.hok, rv, q⟩
  have hx : PassesAt (L2.CX X.prog X.w) ((cxOf CXg X.prog X.w X.K X.mg X.base Ng qg sg g cdg X.A X.stack s H Eg).tr pn xe) σZ (E σZ) := fun _ _ _ e s' I c => tk e s' (XE.of_call I (fun cls d H' h => hW cls d σZ H' h) c)
  refine wpAny_call (codeAny_mono rc fun r s' hq => ?_)
  cases r with
  | error e => exact hx pinsZ HZ s1 e s' I1 hq
  | ok fl =>
    cases fl with
    | ret u => exact I1.after hq
    | next => exact False.elim hq
    | brk => exact False.elim hq
    | cont => exact False.elim hq
/-- the def x that calls what it got: a calls it; TT: what it makes of the lambda's reading -/
def GivesW (X : Cx) (Ng : List Str) (x : Str) (sg : Scope) (g : Addr) (cdg : Value) (bg : List Stmt) (a : Str) (TT : (XK → Hp → VK → Prop) → Hp → VK → Prop) : Prop :=
  ∀ (f : Addr) (F : LF) (dn : Option Int) (s : Shared) (H : Hp) (Q : VK) (tl : XK → Hp → VK → Prop),
    (∀ (W : WX) (pn : List (Addr × Obj)) (xe : Value → Shared → Prop) (E : L2.St → XK) (p1 p2 : Pos), Takes ((cxOf CX0 X.prog X.w X.K X.mg X.base Ng x sg g cdg X.A X.stack s H E0).tr pn xe) W → (∀ cls d σ' H', E σ' cls d H' → W cls d σ' H') →
      PE ((cxOf CX0 X.prog X.w X.K X.mg X.base Ng x sg g cdg X.A X.stack s H E0).tr pn xe) (.Call (.Name a p1) [] [] p2) (fun σZ HZ Q => σZ[0]? = some (some (.ref f)) ∧ AtL HZ f F dn ∧ tl (E σZ) HZ Q)) →
    AtL H f F dn → Room 1 (X.A.deeper (envOfC x sg s.heap.objs.size g cdg)) → TT tl H Q →
    ∃ t, PSs (cxOf CX0 X.prog X.w X.K X.mg X.base Ng x sg g cdg X.A X.stack s H E0).nox bg t ∧ t { nx := fun _ H' => Q .non H', rt := Q } (L2.start Ng [.ref f]) H
/-- x(e), e one of the lambdas mk i -/
def tWork {ι : Type} (mk : ι → Addr → Value → LF) (dn : ι → Option Int) (TT : (XK → Hp → VK → Prop) → Hp → VK → Prop) (t : ι → XK → TE) (te : TE) : TE := fun σ H Q => te σ H fun v H1 => ∃ (f : Addr) (i : ι) (c : Addr) (dV : Value), v = .ref f ∧ AtL H1 f (mk i c dV) (dn i) ∧ TT (fun E H' Q' => t i E σ H' Q') H1 Q
theorem pe_work {X : Cx} {ι : Type} {mk : ι → Addr → Value → LF} {dn : ι → Option Int} {TT : (XK → Hp → VK → Prop) → Hp → VK → Prop} {x a : Str} {g : Addr} {k : Nat} {pg : Arguments} {bg : List Stmt} {sg : Scope} {dV kV doc pm cdv ct oc : Value} {an od : Option Addr} {osl : Array (Option Value)} {Ng : List Str}
    {e : Expr} {te : TE} {t : ι → XK → TE} {p pos : Pos} (hg : Gl X x) (hm : X.mg x = some (.ref g)) (hk : PySem.W.keepIn X.K (.ref g) = true)
    (lk : X.K.lookup g = some ⟨oc, od, .func (PySem.W.fnOf x x pg bg sg dV kV doc pm an cdv ct), osl⟩) (hcg : PySem.W.codeIn X.K cdv x = true) (hb : L2.Binds X.K (PySem.W.fnOf x x pg bg sg dV kV doc pm an cdv ct) [a] []) (Sg : FnScope Ng [a] sg) (hNg : Ng[0]? = some a) (hva : Vis sg a)
    (hG : GivesW X Ng x sg g cdv bg a TT) (hr : Room (k + 2) X.A) (he : PE X e te)
    (hL : ∀ (i : ι) (c : Addr) (dV : Value), LamT X.N X.env.scope (mk i c dV).scope ∧ (mk i c dV).cl = cloFrom X.env.cells (mk i c dV).scope.names [] ∧ (mk i c dV).qual = X.env.qual ++ "<lambda>" ∧ BindL (mk i c dV) (dn i))
    (hbody : ∀ (i : ι) (c : Addr) (dV : Value) (A : Around) (outer : List Env) (s : Shared) (H : Hp) (E : XK) (f : Addr), Room k (A.deeper (lamEnv X (mk i c dV).scope s.heap.objs.size f (mk i c dV).c)) → PE (lamCx X A outer s H E (mk i c dV).scope f (mk i c dV).c) (mk i c dV).body (t i E))
    (hsp : starEach [e] X.env = (false, eval e X.env) :: starEach [] X.env := by rfl)
    (hdb : (x == ("__debug__" : Str)) = false := by decide) (hd : (a == ("__debug__" : Str)) = false := by decide) (hcd : (a == ("__classdict__" : Str)) = false := by decide) :
    PE X (.Call (.Name x p) [e] [] pos) (tWork mk dn TT t te) := by
  refine ⟨fun pins s σ H Q I h => ?_⟩
  refine wpAny_Call_Name_kw (ld_glob I hg hm ?_ hdb)
  refine PySem.W.callWith_K (h₀ := X.base) I.ok.mod.kin hk ?_ hsp (by rfl)
  rw [hsp]
  show wpAny _ _ (spliced ((false, eval e X.env) :: backTo pos (starEach [] X.env))) _ _ s
  refine Calls.spliced_cons (thn (he.run pins s σ H _ I h) fun u s' hh => ?_)
  obtain ⟨v, H1, I1, r1, f, i, c, dV', ev, hat, hT⟩ := hh
  subst ev
  obtain rfl : u = Value.ref f := r1
  refine Calls.spliced_nil ⟨I1.kIn, ?_⟩
  obtain ⟨L, hcl, hq, hbl⟩ := hL i c dV'
  have rc : codeAny (model X.prog X.w) X.A (.call (.ref g) ⟨[.ref f], []⟩) (CR CX0 X.stack X.prog X.w H1 s' Q E0) s' := by
    refine run_ofS (N := Ng) (ps := [a]) (us := [.ref f]) (vs := [.ref f]) lk hcg Sg hr I1.env0 (hb s' [.ref f] I1.kIn rfl) (.cons rfl .nil) rfl fun hr' => ?_
    obtain ⟨t', ht', hq'⟩ := hG f (mk i c dV') (dn i) s' H1 Q (fun E H' Q' => t i E σ H' Q') (fun W pn xe E p1 p2 tk hW => pe_act3 (i := 0) I1 L hcl hq hbl tk hW hr' (tb := fun E => t i E) (fun E A outer s H hr2 => hbody i c dV' A outer s H E f hr2) hNg hva hd hcd) hat (hr'.mono (by omega)) hT
    exact ⟨t', ht'.nox, hq'⟩
  refine wpAny_call (codeAny_mono rc fun r s2 hq => ?_)
  cases r with
  | error e => exact (show False from hq).elim
  | ok fl =>
    cases fl with
    | ret u => exact I1.after hq
    | next => exact False.elim hq
    | brk => exact False.elim hq
    | cont => exact False.elim hq
end
end Lmx

/-! Lm3: the caught exception as a resource; what a suite asks of it. -/
namespace Dl
open PySem PySem.Spec PyProof.Rows L2
open Evl (Ex)
/-- the caught exception stands at a; its own dict at d, with what o says in it -/
def RExc (K : PySem.W.Frag) (a : Addr) (d : Option Addr) (o : Option (Str × PyData)) (w : V) : Res where
  P v B H M := v = .ref a ∧ (d = none ∧ o = none ∧ (∀ b, ¬ M b) ∨ ∃ dd f z, d = some dd ∧ o = some (f, z) ∧ H dd = some (.xd [(f, w)]) ∧ Dp K B w z ∧ ∀ b, M b ↔ b = dd)
  loc := by
    rintro v B H B' H' M ⟨e, h⟩ eB k
    refine ⟨e, ?_⟩
    rcases h with ⟨h1, h2, h3⟩ | ⟨dd, f, z, h1, h2, h3, h4, h5⟩
    · exact .inl ⟨h1, h2, h3⟩
    · exact .inr ⟨dd, f, z, h1, h2, by rw [k dd ((h5 dd).mpr rfl)]; exact h3, dp_mono eB _ _ h4, h5⟩
  live := by
    rintro v B H M ⟨e, h⟩ b hb
    rcases h with ⟨h1, h2, h3⟩ | ⟨dd, f, z, h1, h2, h3, h4, h5⟩
    · exact absurd hb (h3 b)
    · rw [(h5 b).mp hb, h3]
      exact fun z => nomatch z
section
variable {K : PySem.W.Frag} {δ : List Slot} {Φ : Slot → List Slot → Prop} {i : Nat} {a : Addr} {d : Option Addr} {o : Option (Str × PyData)} {cls : Value} {w : V}
/-- isinstance(e, C) -/
theorem ev_isX {D : Addr} {c : V} {cv : Value} {b : Bool} (hi : δ[i]? = some (.ow (RExc K a d o w))) (ec : cls = .ref D) (hE : ExcC K D) (hc : ∀ u, RelV c u → u = cv) (hk : PySem.W.kitOne K (.ref D) cv = some b) (h : Φ (.pu (.bool b)) δ) :
    EvS K (tCB (Xr.rIsX K cls d a) (tCons (tVar i) (tCons (tC c) tNil))) δ Φ := fun B H σ F Q S k => by
  obtain ⟨v, M, ev, hP, hb, hF, _⟩ := S.opn hi
  obtain ⟨rfl, hd⟩ := hP
  refine ⟨_, ev, c, cv, b, D, rfl, ec, hE, ?_, hc, hk, k _ (fun _ => False) (.pu (.bool b)) B H δ (Ex.refl _) (fun _ _ => rfl) (S.less fun a z => z.elim id False.elim) ⟨.bl _, fun _ z => z⟩ (fun _ z => z.elim) h⟩
  rcases hd with ⟨h1, _⟩ | ⟨dd, f, z, h1, h2, h3, h4, h5⟩
  · exact .inl h1
  · exact .inr ⟨dd, _, h1, h3⟩
/-- e.f -/
theorem ev_xg {C : Addr} {f : Str} {z : PyData} (hi : δ[i]? = some (.ow (RExc K a d o w))) (ho : o = some (f, z)) (ec : cls = .ref C) (hX : XfC K C) (hn : PySem.W.findIn K (.ref C) f = some none) (h : Φ (.pu z) δ) :
    EvS K (Xr.tXg K a cls d f (tVar i)) δ Φ := fun B H σ F Q S k => by
  obtain ⟨v, M, ev, hP, hb, hF, _⟩ := S.opn hi
  obtain ⟨rfl, hd⟩ := hP
  rcases hd with ⟨_, h2, _⟩ | ⟨dd, f', z', h1, h2, h3, h4, h5⟩
  · rw [ho] at h2; cases h2
  · rw [ho] at h2
    cases h2
    exact ⟨_, ev, rfl, C, dd, _, w, ec, hX, hn, h1, h3, by simp, k _ (fun _ => False) (.pu z) B H δ (Ex.refl _) (fun _ _ => rfl) (S.less fun a z => z.elim id False.elim) ⟨h4, fun _ z => z⟩ (fun _ z => z.elim) h⟩
end
end Dl

/-! Lm4: list.count of truth values; list.index of data. -/
namespace Rk
open PySem PySem.Spec PyProof PyProof.Rows L2
theorem reads_bls {h : Heap} : ∀ {us : List Value} {xs : List Bool}, Vals (xs.map V.bl) us → ReadsAll h us (xs.map PyData.bool) []
  | _, [], .nil => .nil
  | _, x :: xs, .cons r t => by
    obtain rfl : _ = Value.bool x := r
    exact .cons (.bool x) (reads_bls t)
theorem plainAll_bls : ∀ (xs : List Bool), PyData.plainAll (xs.map PyData.bool) = true
  | [] => rfl
  | x :: r => by
    show (PyData.plain (.bool x) && PyData.plainAll (r.map PyData.bool)) = true
    rw [plainAll_bls r]
    rfl
theorem count_bls (k : Bool) : ∀ (xs : List Bool), (xs.map PyData.bool).countP (fun y => PyData.eqv y (.bool k)) = xs.count k
  | [] => rfl
  | x :: r => by
    rw [List.map_cons, List.countP_cons, count_bls k r, List.count_cons]
    congr 1
def rCntB (K : PySem.W.Frag) : V → List V → Hp → VK → Prop := fun x xs H Q => ∃ (p : Addr) (ns : List Bool) (k : Bool), x = .ref p ∧ xs = [.bl k] ∧ SqL K H p (ns.map V.bl) ∧ Q (.int (ns.count k : Nat)) H
theorem mt_lcountB {X : Cx} (hu : X.A.units + 1 < cLine) : MtR X "list.count" (rCntB X.K) := by
  intro pins s σ H x xs v us Q I rx rxs h
  obtain ⟨p, ns, k, rfl, rfl, hs, q⟩ := h
  cases rx
  obtain ⟨u, rfl, ru⟩ := rxs.one
  obtain rfl : u = Value.bool k := ru
  obtain ⟨its, rv, pl, hlen⟩ := I.list hs
  refine PySem.SeqAt.count_list_data pl.isList (reads_bls (by rw [List.toList_toArray]; exact rv)) (.bool k) (plainAll_bls ns) rfl ?_ ?_
  · have : PyData.depth (.bool k) = 0 := rfl
    rw [this, Nat.min_zero]
    exact hu
  · rw [count_bls]
    exact ⟨.int (ns.count k : Nat), H, I.tok _, ⟨s.toks, rfl⟩, q⟩
end Rk
namespace Kk
open PySem PySem.Spec PyProof.Rows L2
theorem mt_lcountB {X : Cx} {K : PySem.W.Frag} (hu : X.A.units + 1 < cLine) (h : X.K = K := by rfl) : MtR X "list.count" (Rk.rCntB K) := h ▸ Rk.mt_lcountB hu
theorem mt_indexD {X : Cx} {K : PySem.W.Frag} (hu : X.A.units + 65 < cLine) (h : X.K = K := by rfl) : MtR X "list.index" (rIndexD K) := h ▸ L2.mt_indexD hu
end Kk
namespace Dl
open PySem PySem.Spec PyProof.Rows L2
open Evl (Ex)
section
variable {K : PySem.W.Frag} {ta te : TE} {δ : List Slot} {Φ : Slot → List Slot → Prop}
theorem dpa_bls_inv {H : Hp} : ∀ {ns : List Bool} {vs : List V}, DpAll K H vs (ns.map PyData.bool) → vs = ns.map V.bl
  | [], _, .nil => rfl
  | n :: ns, _, .cons a t => by
    cases a
    rw [dpa_bls_inv t]
    rfl
theorem ev_countB (h : EvS K ta δ fun s δ1 => ∃ ns : List Bool, den K δ1 s (.list (ns.map PyData.bool)) ∧ EvS K te δ1 fun s2 δ2 => ∃ k : Bool, den K δ2 s (.list (ns.map PyData.bool)) ∧ s2 = .pu (.bool k) ∧ Φ (.pu (.int ((ns.count k : Nat) : Int))) δ2) : EvS K (tBM K "list" (Rk.rCntB K) ta (tCons te tNil)) δ Φ := fun B H σ F Q S kk =>
  h B H σ F _ S fun v M s B1 H1 δ1 e1 f1 S1 w1 n1 ⟨ns, hd, p⟩ => by
    obtain ⟨b, xs, rfl, hs, ha⟩ := (den_dr S1 w1 hd).lst S1.bh
    refine ⟨.inl ⟨rfl, xs, hs⟩, p B1 H1 σ _ _ S1 fun v2 M2 s2 B2 H2 δ2 e2 f2 S2 w2 n2 ⟨k, hd2, es, q⟩ => ?_⟩
    subst es
    obtain ⟨b', xs', e, hs', ha'⟩ := (den_dr S2 (w1.step (δ2 := δ2) e2 fun a ha => f2 a (.inr ha)) hd2).lst S2.bh
    cases e
    have ex := dpa_bls_inv ha'
    subst ex
    have ev2 : v2 = .bl k := by
      obtain ⟨hv, _⟩ := w2
      cases hv
      rfl
    subst ev2
    have SF : Sd K B2 H2 σ δ2 F := S2.less fun a ha => .inl (.inl ha)
    exact ⟨_, ns, k, rfl, rfl, hs', kk _ (fun _ => False) (.pu (.int _)) B2 H2 δ2 (e1.trans e2) (fun a z => by rw [f2 a (.inl z), f1 a z]) (SF.less fun a z => z.elim id False.elim) ⟨.int _, fun _ z => z⟩ (fun _ z => z.elim) q⟩
theorem ev_indexD (h : EvS K ta δ fun s δ1 => ∃ ds, den K δ1 s (.list ds) ∧ EvS K te δ1 fun s2 δ2 => ∃ (d : PyData) (j : Nat) (z : PyData), den K δ2 s (.list ds) ∧ s2 = .pu d ∧ SeqAt.shaped (.list ds) = true ∧ SeqAt.shaped d = true ∧ ds[j]? = some z ∧ PyData.eqv z d = true ∧ (∀ (m : Nat) (z' : PyData), m < j → ds[m]? = some z' → PyData.eqv z' d = false) ∧ Φ (.pu (.int (j : Int))) δ2) : EvS K (tBM K "list" (rIndexD K) ta (tCons te tNil)) δ Φ := fun B H σ F Q S kk =>
  h B H σ F _ S fun v M s B1 H1 δ1 e1 f1 S1 w1 n1 ⟨ds, hd, p⟩ => by
    obtain ⟨b, xs, rfl, hs, ha⟩ := (den_dr S1 w1 hd).lst S1.bh
    refine ⟨.inl ⟨rfl, xs, hs⟩, p B1 H1 σ _ _ S1 fun v2 M2 s2 B2 H2 δ2 e2 f2 S2 w2 n2 ⟨d, j, z, hd2, es, h1, h2, h3, h4, h5, q⟩ => ?_⟩
    subst es
    obtain ⟨b', xs', e, hs', ha'⟩ := (den_dr S2 (w1.step (δ2 := δ2) e2 fun a ha => f2 a (.inr ha)) hd2).lst S2.bh
    cases e
    have SF : Sd K B2 H2 σ δ2 F := S2.less fun a ha => .inl (.inl ha)
    exact ⟨_, v2, d, ds, j, z, rfl, rfl, .lst hs' (dpa_mono S2.bh _ _ ha'), dp_mono S2.bh _ _ w2.1, h1, h2, h3, h4, h5, kk _ (fun _ => False) (.pu (.int _)) B2 H2 δ2 (e1.trans e2) (fun a z => by rw [f2 a (.inl z), f1 a z]) (SF.less fun a z => z.elim id False.elim) ⟨.int _, fun _ z => z⟩ (fun _ z => z.elim) q⟩
end
end Dl

/-! Lm5: the table of code objects as a resource; lambdas made and handed on, as slots. -/
namespace Dl
open PySem PySem.Spec PyProof.Rows L2
open Evl (Ex)
open Lmx LamX
theorem AtL.ext {B B' : Hp} {f : Addr} {F : LF} {dn : Option Int} (h : AtL B f F dn) (e : Ex B B') : AtL B' f F dn := by
  refine ⟨e _ _ h.fn, e _ _ h.co, ?_⟩
  cases dn with
  | none => exact h.de
  | some n =>
    obtain ⟨t, h1, h2⟩ := h.de
    exact ⟨t, h1, e _ _ h2⟩
/-- the table at P; the slot holds data -/
def RTab (K : PySem.W.Frag) (P : Addr) (q : Str) (sc : PyData) : Res where
  P v B H M := Dp K B v sc ∧ ∃ ps, H P = some (.tbl ps) ∧ TriplesOk ps.toList ∧ Told B ps q ∧ ∀ a, M a ↔ a = P
  loc := by
    rintro v B H B' H' M ⟨h0, ps, h1, h2, h3, h4⟩ e k
    refine ⟨dp_mono e _ _ h0, ps, by rw [k P ((h4 P).mpr rfl)]; exact h1, h2, fun pos cv hcv => ?_, h4⟩
    obtain ⟨c, e1, e2⟩ := h3 pos cv hcv
    exact ⟨c, e1, e _ _ e2⟩
  live := by
    rintro v B H M ⟨h0, ps, h1, h2, h3, h4⟩ a ha
    rw [(h4 a).mp ha, h1]
    exact fun z => nomatch z
/-- a lambda; owns nothing -/
def RLam (mk : Addr → Value → LF) (dn : Option Int) : Res where
  P v B _ M := ∃ f c dV, v = .ref f ∧ AtL B f (mk c dV) dn ∧ ∀ a, ¬ M a
  loc := by
    rintro v B H B' H' M ⟨f, c, dV, h1, h2, h3⟩ e k
    exact ⟨f, c, dV, h1, AtL.ext h2 e, h3⟩
  live := by
    rintro v B H M ⟨f, c, dV, h1, h2, h3⟩ a ha
    exact absurd ha (h3 a)
section
variable {K : PySem.W.Frag} {δ : List Slot} {Φ : Slot → List Slot → Prop} {i : Nat}
theorem ev_lamb {P : Addr} {q : Str} {mk : Addr → Value → LF} {dn : Option Int} {sc : PyData} (hi : δ[i]? = some (.ow (RTab K P q sc))) (hq : ∀ c dV, (mk c dV).qual = q) (hc : ∀ c dV, (mk c dV).c = c) (hdV : ∀ c dV, (mk c dV).dV = dV) (h : Φ (.ow (RLam mk dn)) δ) : EvS K (tLamb P q mk dn) δ Φ := fun B H σ F Q S kk => by
  obtain ⟨v0, M, ev, ⟨hdp, ps, hP, ht, hT, hM⟩, hb, hF, hset⟩ := S.opn hi
  have hTH : Told H ps q := fun pos cv hcv => by
    obtain ⟨c, e1, e2⟩ := hT pos cv hcv
    exact ⟨c, e1, S.bh _ _ e2⟩
  refine ⟨ps, hP, ht, hTH, fun H0 dV hd f c' ps' m => ?_⟩
  -- the frozen part ahead of the code object
  obtain ⟨B0, hB0, hBH0, hkeep0, hnew0, hP0, hde, hBP0⟩ : ∃ B0 : Hp, Ex B B0 ∧ Ex B0 H0 ∧ (∀ a o, H a = some o → H0 a = some o) ∧ (∀ a o, B0 a = some o → B a = some o ∨ H a = none) ∧ H0 P = some (.tbl ps) ∧ DefOk B0 dV dn ∧ B0 P = none := by
    have bP : B P = none := hb P ((hM P).mpr rfl)
    rcases hd with ⟨e1, e2, e3⟩ | ⟨n, t, e1, e2, e3, e4⟩
    · subst e1 e2 e3
      exact ⟨B, Ex.refl _, S.bh, fun _ _ h => h, fun _ _ h => .inl h, hP, rfl, bP⟩
    · subst e1 e2 e4
      have g := Gr.new (o := .tup [.int n]) S.bh e3
      exact ⟨upd B t (.tup [.int n]), g.b, g.bh, fun a o h => g.h a o h, g.nw, g.h _ _ hP, ⟨t, rfl, upd_same⟩, by rw [upd_ne (fun z => by rw [z, e3] at hP; cases hP)]; exact bP⟩
  obtain ⟨m1, m2, m3, m4, m5, m6, m7⟩ := m
  have nf : H f = none := by
    cases e : H f with
    | none => rfl
    | some o => rw [hkeep0 f o e] at m1; cases m1
  have b0f : B0 f = none := exnone hBH0 m1
  -- the code object
  have cc : (H c' = none ∧ H0 c' = none) ∨ B c' = some (CodeO c' q) := by
    rcases m5 with z | ⟨pos, hcv⟩
    · refine .inl ⟨?_, z⟩
      cases e : H c' with
      | none => rfl
      | some o => rw [hkeep0 c' o e] at z; cases z
    · obtain ⟨c, e1, e2⟩ := hT pos _ hcv
      cases e1
      exact .inr e2
  let B2 : Hp := upd (upd B0 c' (CodeO c' q)) f (FnL f (mk c' dV))
  have bc2 : B2 c' = some (CodeO c' q) := by
    show upd _ f _ c' = _
    rw [upd_ne (Ne.symm m2), upd_same]
  have bf2 : B2 f = some (FnL f (mk c' dV)) := upd_same
  have at2 : ∀ b, b ≠ f → b ≠ c' → B2 b = B0 b := fun b h1 h2 => by
    show upd _ f _ b = _
    rw [upd_ne h1, upd_ne h2]
  have hx2 : ∀ b, b ≠ f → b ≠ c' → b ≠ P → afterL H0 P q (mk c' dV) f c' ps' b = H0 b := fun b h1 h2 h3 => by
    unfold afterL
    rw [upd_ne h1, upd_ne h2, upd_ne h3]
  have hxc : afterL H0 P q (mk c' dV) f c' ps' c' = some (CodeO c' q) := by
    unfold afterL
    rw [upd_ne (Ne.symm m2), upd_same]
  have hxf : afterL H0 P q (mk c' dV) f c' ps' f = some (FnL f (mk c' dV)) := upd_same
  have hxP : afterL H0 P q (mk c' dV) f c' ps' P = some (.tbl ps') := by
    unfold afterL
    rw [upd_ne (Ne.symm m3), upd_ne (Ne.symm m4), upd_same]
  have g1 : Ex B0 B2 := fun a o ha => by
    by_cases h1 : a = f
    · rw [h1, b0f] at ha; cases ha
    · by_cases h2 : a = c'
      · subst h2
        rcases cc with ⟨z, z2⟩ | z
        · rw [exnone hBH0 z2] at ha; cases ha
        · rw [hB0 _ _ z] at ha
          cases ha
          exact bc2
      · rw [at2 a h1 h2]; exact ha
  have g2 : Ex B2 (afterL H0 P q (mk c' dV) f c' ps') := fun a o ha => by
    by_cases h1 : a = f
    · subst h1; rw [bf2] at ha; cases ha; exact hxf
    · by_cases h2 : a = c'
      · subst h2; rw [bc2] at ha; cases ha; exact hxc
      · rw [at2 a h1 h2] at ha
        by_cases h3 : a = P
        · subst h3; rw [hBP0] at ha; cases ha
        · rw [hx2 a h1 h2 h3]; exact hBH0 _ _ ha
  have g3 : ∀ a o, H a = some o → ¬ M a → afterL H0 P q (mk c' dV) f c' ps' a = some o := fun a o ha hm => by
    have h3 : a ≠ P := fun z => hm ((hM a).mpr z)
    by_cases h1 : a = f
    · rw [h1, nf] at ha; cases ha
    · by_cases h2 : a = c'
      · subst h2
        rcases cc with ⟨z, _⟩ | z
        · rw [z] at ha; cases ha
        · rw [S.bh _ _ z] at ha
          cases ha
          exact hxc
      · rw [hx2 a h1 h2 h3]; exact hkeep0 _ _ ha
  have g4 : ∀ a o, B2 a = some o → B a = some o ∨ H a = none ∨ M a := fun a o ha => by
    by_cases h1 : a = f
    · rw [h1]; exact .inr (.inl nf)
    · by_cases h2 : a = c'
      · subst h2
        rcases cc with ⟨z, _⟩ | z
        · exact .inr (.inl z)
        · rw [bc2] at ha
          cases ha
          exact .inl z
      · rw [at2 a h1 h2] at ha
        rcases hnew0 a o ha with z | z
        · exact .inl z
        · exact .inr (.inl z)
  have bP2 : B2 P = none := by rw [at2 P (Ne.symm m3) (Ne.symm m4)]; exact hBP0
  have S2 := hset B2 (afterL H0 P q (mk c' dV) f c' ps') (some v0) (.ow (RTab K P q sc)) M (hB0.trans g1) g2 g3 g4 ⟨v0, rfl, ⟨dp_mono (hB0.trans g1) _ _ hdp, ps', hxP, m6, fun pos cv hcv => by
    rcases m7 pos cv hcv with z | z
    · obtain ⟨c, e1, e2⟩ := hT pos cv z
      exact ⟨c, e1, g1 _ _ (hB0 _ _ e2)⟩
    · exact ⟨c', z, bc2⟩, hM⟩, fun a ha => by rw [(hM a).mp ha]; exact bP2⟩ (fun a ha => .inl ha)
  rw [set_self ev] at S2
  have e8 : δ.set i (Slot.ow (RTab K P q sc)) = δ := set_selfD hi
  rw [e8] at S2
  refine kk (.ref f) (fun _ => False) (.ow (RLam mk dn)) B2 _ δ (hB0.trans g1) (fun a ha => ?_) (S2.less fun a z => z.elim id False.elim) ⟨f, c', dV, rfl, ⟨bf2, by rw [hc, hq]; exact bc2, ?_⟩, fun _ z => z⟩ (fun _ z => z.elim) h
  · obtain ⟨o, ho⟩ := some_of_ne (S.fl a ha)
    rw [ho]
    exact g3 a o ho (fun z => hF a z ha)
  · rw [hdV]
    cases dn with
    | none => exact hde
    | some n =>
      obtain ⟨t, e1, e2⟩ := hde
      exact ⟨t, e1, g1 _ _ e2⟩
theorem ev_scr {P : Addr} {q : Str} {sc : PyData} (hi : δ[i]? = some (.ow (RTab K P q sc))) (h : Φ (.pu sc) δ) : EvS K (tVar i) δ Φ := fun B H σ F Q S k => by
  obtain ⟨v, M, ev, hP, _⟩ := S.opn hi
  exact ⟨v, ev, k v (fun _ => False) (.pu sc) B H δ (Ex.refl _) (fun _ _ => rfl) (S.less fun a z => z.elim id False.elim) ⟨hP.1, fun _ z => z⟩ (fun _ z => z.elim) h⟩
/-! ### what is told of what is refused -/
def excD : Xc → PyData
  | .plan d => .tuple [.str "plan", d]
  | .ring d => .tuple [.str "ring", d]
  | .service => .tuple [.str "service", .int 0]
  | .beats => .tuple [.str "beats", .int 0]
  | .log d => .tuple [.str "log", d]
  | .text d => .tuple [.str "text", d]
def TTword (K : PySem.W.Frag) (Z : XA) : (XK → Hp → VK → Prop) → Hp → VK → Prop := fun tl H Q =>
  ∀ E : XK, (∀ cls d H', (∃ x B', Ex B' H' ∧ xp K Z x B' H' cls d ∧ ∀ v B3 H3, Gr B' H' B3 H3 → Dp K B3 v (excD x) → Q v H3) → E cls d H') → tl E H (fun _ H' => Q .non H')
/-- word(f), f one of the lambdas mk j, whose body is a call of a def that may raise -/
theorem ev_word {ι : Type} {mk : ι → Addr → Value → LF} {dn : ι → Option Int} {Z : XA} {n : ι → Nat} {pre : ι → List PyData → Prop} {T : ι → List PyData → Rt → Prop} {R : ι → List PyData → XP → Prop} {tr : ι → TA} {te : TE}
    (h : EvS K te δ fun s δ1 => ∃ j : ι, s = .ow (RLam (mk j) (dn j)) ∧ EvDs K (tr j) δ1 fun ds δ2 => ds.length = n j ∧ pre j ds ∧ (∀ r, T j ds r → Φ (.pu .none) δ2) ∧ ∀ p, R j ds p → ∃ x, p = xp K Z x ∧ Φ (.pu (excD x)) δ2) :
    EvS K (tWork mk dn (TTword K Z) (fun j E => tCall (spX K (n j) (pre j) (T j) (R j)) [] E (tr j)) te) δ Φ := fun B H σ F Q S kk =>
  h B H σ F _ S fun v M s B1 H1 δ1 e1 f1 S1 w1 n1 ⟨j, es, p⟩ => by
    subst es
    obtain ⟨f, c, dV, rfl, hat, hM⟩ := w1
    refine ⟨f, j, c, dV, rfl, AtL.ext hat S1.bh, ?_⟩
    have SF : Sd K B1 H1 σ δ1 F := S1.less fun a ha => .inl ha
    intro E hE
    show tr j σ H1 _
    refine p B1 H1 σ F _ SF fun vs ds B2 H2 δ2 e2 f2 S2 ha ⟨hn, hp, q1, q2⟩ => ?_
    show spX K (n j) (pre j) (T j) (R j) (vs ++ []) H2 _ _
    rw [List.append_nil]
    have f3 : ∀ {B3 H3}, Gr B2 H2 B3 H3 → ∀ a, F a → H3 a = H a := fun g a z => (ex_eq g.h (S2.fl a z)).trans ((f2 a z).trans (f1 a z))
    refine ⟨B2, ds, S2.bh, ha, hn, hp, fun v B3 H3 r g hr hT => ?_, fun p B3 H3 cls dd g hR w => ?_⟩
    · exact kk .non (fun _ => False) (.pu .none) B3 H3 δ2 ((e1.trans e2).trans g.b) (f3 g) ((S2.grow g).less fun a z => z.elim id False.elim) ⟨.non, fun _ z => z⟩ (fun _ z => z.elim) (q1 r hT)
    · obtain ⟨x, rfl, hΦ⟩ := q2 p hR
      exact hE cls dd H3 ⟨x, B3, g.bh, w, fun v B4 H4 g2 hv => kk v (fun _ => False) (.pu (excD x)) B4 H4 δ2 (((e1.trans e2).trans g.b).trans g2.b) (f3 (g.trans g2)) ((S2.grow (g.trans g2)).less fun a z => z.elim id False.elim) ⟨hv, fun _ z => z⟩ (fun _ z => z.elim) hΦ⟩
end
end Dl

/-! Lm6: the suite of a word-def: what the caught exception tells. -/
namespace Dl
open PySem PySem.Spec PyProof.Rows L2
open Evl (Ex)
def xcN : Xc → Nat
  | .plan _ => 0 | .ring _ => 1 | .service => 2 | .beats => 3 | .log _ => 4 | .text _ => 5
/-- the class facts that the suite asks -/
structure ZOk (K : PySem.W.Frag) (mg : Str → Option Value) (Z : XA) : Prop where
  gK : mg "KeepError" = some (.ref Z.keep)
  g0 : mg "BadPlan" = some (.ref Z.plan)
  g1 : mg "BadRing" = some (.ref Z.ring)
  g2 : mg "BadService" = some (.ref Z.service)
  g3 : mg "BadBeats" = some (.ref Z.beats)
  g4 : mg "BadLog" = some (.ref Z.log)
  g5 : mg "BadText" = some (.ref Z.text)
  is : ∀ x, ExcC K (xcAt Z x)
  ek : ∀ x, PySem.W.exmOne K (.ref (xcAt Z x)) (.ref Z.keep) = some true
  ve : ∀ x, PySem.W.kitOne K (.ref (xcAt Z x)) (.type "ValueError") = some true
  k0 : ∀ x, PySem.W.kitOne K (.ref (xcAt Z x)) (.ref Z.plan) = some (decide (xcN x = 0))
  k1 : ∀ x, PySem.W.kitOne K (.ref (xcAt Z x)) (.ref Z.ring) = some (decide (xcN x = 1))
  k2 : ∀ x, PySem.W.kitOne K (.ref (xcAt Z x)) (.ref Z.service) = some (decide (xcN x = 2))
  k3 : ∀ x, PySem.W.kitOne K (.ref (xcAt Z x)) (.ref Z.beats) = some (decide (xcN x = 3))
  k4 : ∀ x, PySem.W.kitOne K (.ref (xcAt Z x)) (.ref Z.log) = some (decide (xcN x = 4))
  k5 : ∀ x, PySem.W.kitOne K (.ref (xcAt Z x)) (.ref Z.text) = some (decide (xcN x = 5))
  f0 : PySem.W.findIn K (.ref Z.plan) "number" = some none
  f1 : PySem.W.findIn K (.ref Z.ring) "ring" = some none
  f4 : PySem.W.findIn K (.ref Z.log) "row" = some none
  f5 : PySem.W.findIn K (.ref Z.text) "row" = some none
/-- the suite's end -/
abbrev DnS (K : PySem.W.Frag) (a : Addr) (d : Option Addr) (x : Xc) (w : V) : Dn := { nx := fun _ => False, rt := fun s δ2 => s = .pu (excD x) ∧ δ2[1]? = some (.ow (RExc K a d (xcF x) w)) }
theorem suite_end {K : PySem.W.Frag} {t : TS} {Z : XA} {a : Addr} {cls : Value} {d : Option Addr} {x : Xc} {B H : Hp} {Q : VK} {σ : L2.St} {D : Ends} (hl : σ.length = 4) (ha : σ[1]? = some (some (.ref a))) (eB : Ex B H) (hx : xp K Z x B H cls d)
    (hS : ∀ w, ExS K t (DnS K a d x w) [.non, .ow (RExc K a d (xcF x) w), .non, .non]) (k : ∀ v B3 H3, Gr B H B3 H3 → Dp K B3 v (excD x) → Q v H3) (hD : D.rt = Q) : t D σ H := by
  obtain ⟨ec, hd⟩ := hx
  -- the own dict's address, if there is one
  obtain ⟨M, w, hP, hM, hM2⟩ : ∃ (M : Addr → Prop) (w : V), (RExc K a d (xcF x) w).P (.ref a) B H M ∧ (∀ b, M b → B b = none) ∧ ∀ B3 H3 M3, (RExc K a d (xcF x) w).P (.ref a) B3 H3 M3 → (∀ b, M3 b → B3 b = none) → ∀ b, M b → H3 b = H b ∧ B3 b = none := by
    rcases hd with ⟨h1, h2⟩ | ⟨f, z, dd, v, h1, h2, h3, h4, h5⟩
    · exact ⟨fun _ => False, .non, ⟨rfl, .inl ⟨h2, h1, fun _ z => z⟩⟩, fun _ z => z.elim, fun _ _ _ _ _ _ z => z.elim⟩
    · refine ⟨fun b => b = dd, v, ⟨rfl, .inr ⟨dd, f, z, h2, h1, h3, h4, fun _ => Iff.rfl⟩⟩, fun b e => by rw [e]; exact h5, fun B3 H3 M3 hP3 hb3 b e => ?_⟩
      obtain ⟨_, q⟩ := hP3
      rcases q with ⟨q1, _⟩ | ⟨dd', f', z', q1, q2, q3, q4, q5⟩
      · rw [h2] at q1; cases q1
      · rw [h2] at q1
        cases q1
        rw [h1] at q2
        cases q2
        rw [e]
        exact ⟨q3.trans h3.symm, hb3 dd ((q5 dd).mpr rfl)⟩
  let F : Addr → Prop := fun b => FrB B H b ∧ ¬ M b
  have hMlive := (RExc K a d (xcF x) w).live hP
  have S : Sd K B H σ [.non, .ow (RExc K a d (xcF x) w), .non, .non] F := by
    refine ⟨eB, hl, fun b hb => hb.1.2, fun b hb => hb.1.1, updM (fun _ _ => False) 1 M, fun i s hs => ?_, fun i j b h1 h2 => ?_, fun i b h1 => ?_, fun i b h1 => ?_⟩
    · match i, hs with
      | 0, hs => cases hs; rw [updM_ne (by decide)]; exact fun _ z => z
      | 1, hs => cases hs; rw [updM_eq rfl]; exact ⟨.ref a, ha, hP, hM⟩
      | 2, hs => cases hs; rw [updM_ne (by decide)]; exact fun _ z => z
      | 3, hs => cases hs; rw [updM_ne (by decide)]; exact fun _ z => z
      | i + 4, hs => exact absurd hs (by simp)
    · by_cases e1 : i = 1
      · by_cases e2 : j = 1
        · rw [e1, e2]
        · rw [updM_ne e2] at h2; exact h2.elim
      · rw [updM_ne e1] at h1; exact h1.elim
    · by_cases e1 : i = 1
      · rw [updM_eq e1] at h1; exact fun z => z.2 h1
      · rw [updM_ne e1] at h1; exact h1.elim
    · by_cases e1 : i = 1
      · rw [e1]; exact Nat.le_of_ble_eq_true rfl
      · rw [updM_ne e1] at h1; exact h1.elim
  refine hS w B H σ F D S ⟨fun _ _ _ _ _ _ _ z => z.elim, fun _ _ _ _ _ _ _ z => z.elim, fun _ _ _ _ _ _ _ z => z.elim, fun v Mv s B2 H2 σ2 δ2 e f S2 wv n p => ?_, fun _ _ _ _ _ _ _ _ _ _ _ z => False.elim z⟩
  obtain ⟨rfl, h1⟩ := p
  rw [hD]
  obtain ⟨v1, M3, ev1, hP3, hb3, hF3, _⟩ := S2.opn h1
  have ev1' : v1 = .ref a := hP3.1
  subst ev1'
  have hq := hM2 B2 H2 M3 hP3 hb3
  refine k v B2 H2 ⟨e, fun b o hb => ?_, S2.bh, fun b o hb => ?_⟩ wv.1
  · by_cases m : M b
    · rw [(hq b m).1]; exact hb
    · cases hB : B b with
      | none => rw [f b ⟨⟨nn_of hb, hB⟩, m⟩]; exact hb
      | some o' =>
        have e1 := eB b o' hB
        rw [hb] at e1
        cases e1
        exact S2.bh b o (e b o hB)
  · by_cases m : M b
    · rw [(hq b m).2] at hb; cases hb
    · cases hB : B b with
      | some o' => exact .inl (by rw [e b o' hB] at hb; exact hb)
      | none =>
        refine .inr ?_
        cases hh : H b with
        | none => rfl
        | some u => rw [S2.fb b (.inl ⟨⟨nn_of hh, hB⟩, m⟩)] at hb; cases hb
end Dl

/-! Lm7: a def called with a lambda, by its name; a def that may raise, where it doesn't; the law that makes lambdas. -/
namespace Lmx
open PySem PySem.Spec PyProof.Rows L2 LamX Dl
section
variable {X : Cx} {TT : (XK → Hp → VK → Prop) → Hp → VK → Prop} {x a : Str} {st : Stmt} {k : Nat} {Ng : List Str} {p lpos pos : Pos} {params : Arguments} {body : Expr} {scope : Scope} {c P : Addr} {tb : XK → TE}
/-- what a lambda of this context is -/
abbrev lamF (X : Cx) (params : Arguments) (body : Expr) (scope : Scope) (c' : Addr) (dV : Value) : LF := ⟨X.env.qual ++ "<lambda>", params, body, scope, cloFrom X.env.cells scope.names [], c', dV⟩
theorem pe_word {ι : Type} {mk : ι → Addr → Value → LF} {dn : ι → Option Int} {e : Expr} {te : TE} {t : ι → XK → TE} (D : Df X.K X.mg x st [a]) (hg : Gl X x) (Sg : FnScope Ng [a] (defScope st)) (hNg : Ng[0]? = some a) (hva : Vis (defScope st) a) (hG : ∀ (g : Addr) (cdv : Value), GivesW X Ng x (defScope st) g cdv (defBody st) a TT) (hr : Room (k + 2) X.A) (he : PE X e te)
    (hL : ∀ (i : ι) (c : Addr) (dV : Value), LamT X.N X.env.scope (mk i c dV).scope ∧ (mk i c dV).cl = cloFrom X.env.cells (mk i c dV).scope.names [] ∧ (mk i c dV).qual = X.env.qual ++ "<lambda>" ∧ BindL (mk i c dV) (dn i))
    (hbody : ∀ (i : ι) (c : Addr) (dV : Value) (A : Around) (outer : List Env) (s : Shared) (H : Hp) (E : XK) (f : Addr), Room k (A.deeper (lamEnv X (mk i c dV).scope s.heap.objs.size f (mk i c dV).c)) → PE (lamCx X A outer s H E (mk i c dV).scope f (mk i c dV).c) (mk i c dV).body (t i E))
    (hsp : starEach [e] X.env = (false, eval e X.env) :: starEach [] X.env := by rfl)
    (hdb : (x == ("__debug__" : Str)) = false := by decide) (hd : (a == ("__debug__" : Str)) = false := by decide) (hcd : (a == ("__classdict__" : Str)) = false := by decide) :
    PE X (.Call (.Name x p) [e] [] pos) (tWork mk dn TT t te) := by
  obtain ⟨g, fd, F, hm, b⟩ := D.ex
  obtain ⟨oc, od, kV, doc, pm, an, cdv, ct, osl, rfl, lk, hcg⟩ := F.ex
  exact pe_work hg hm F.kp lk hcg b Sg hNg hva (hG g cdv) hr he hL hbody hsp hdb hd hcd
/-- .. with a lambda outright -/
theorem pe_wordL0 (D : Df X.K X.mg x st [a]) (hG : ∀ (g : Addr) (cdv : Value), GivesW X Ng x (defScope st) g cdv (defBody st) a TT) (Sg : FnScope Ng [a] (defScope st)) (TB : TabB X.base X.mg c P) (hcode : X.env.code = .ref c) (hr : Room (k + 2) X.A)
    (hbody : ∀ (A : Around) (outer : List Env) (s : Shared) (H : Hp) (E : XK) (f c' : Addr), Room k (A.deeper (lamEnv X scope s.heap.objs.size f c')) → PE (lamCx X A outer s H E scope f c') body (tb E))
    (hg : Gl X x := by rfl) (hNg : Ng[0]? = some a := by rfl) (hva : Vis (defScope st) a := by exact Or.inl rfl) (hl : lamTB X.N X.env.scope scope = true := by rfl) (hdef : defaultsOf params X.env = ([], []) := by rfl) (hbind : ∀ (c' : Addr) (dV : Value), BindL (lamF X params body scope c' dV) none := by intro c' dV doc pm ctv h; have h : dV = .none := h; subst h; rfl)
    (hsp : starEach [.Lambda params body scope lpos] X.env = (false, eval (.Lambda params body scope lpos) X.env) :: starEach [] X.env := by rfl)
    (hdb : (x == ("__debug__" : Str)) = false := by decide) (hd : (a == ("__debug__" : Str)) = false := by decide) (hcd : (a == ("__classdict__" : Str)) = false := by decide) :
    PE X (.Call (.Name x p) [.Lambda params body scope lpos] [] pos) (tWork (ι := Unit) (fun _ => lamF X params body scope) (fun _ => none) TT (fun _ => tb) (tLamb P (X.env.qual ++ "<lambda>") (lamF X params body scope) none)) :=
  have L := lamT_by hl
  pe_word D hg Sg hNg hva hG hr (pe_lamb0 TB hcode (fun ok => L.has ok) hdef) (fun _ c dV => ⟨L, rfl, rfl, hbind c dV⟩) (fun _ c dV A outer s H E f h => hbody A outer s H E f c h) hsp hdb hd hcd
theorem pe_wordL1 {n : Int} {j : Nat} {p1 : Pos} (D : Df X.K X.mg x st [a]) (hG : ∀ (g : Addr) (cdv : Value), GivesW X Ng x (defScope st) g cdv (defBody st) a TT) (Sg : FnScope Ng [a] (defScope st)) (TB : TabB X.base X.mg c P) (hcode : X.env.code = .ref c) (hr : Room (k + 2) X.A)
    (hbody : ∀ (A : Around) (outer : List Env) (s : Shared) (H : Hp) (E : XK) (f c' : Addr), Room k (A.deeper (lamEnv X scope s.heap.objs.size f c')) → PE (lamCx X A outer s H E scope f c') body (tb E))
    (hdf : params.defaults = [.Constant (.int n) j p1]) (hbind : ∀ (c' : Addr) (dV : Value), BindL (lamF X params body scope c' dV) (some n))
    (hg : Gl X x := by rfl) (hNg : Ng[0]? = some a := by rfl) (hva : Vis (defScope st) a := by exact Or.inl rfl) (hl : lamTB X.N X.env.scope scope = true := by rfl) (hk0 : params.kw_defaults = [] := by rfl)
    (hsp : starEach [.Lambda params body scope lpos] X.env = (false, eval (.Lambda params body scope lpos) X.env) :: starEach [] X.env := by rfl)
    (hdb : (x == ("__debug__" : Str)) = false := by decide) (hd : (a == ("__debug__" : Str)) = false := by decide) (hcd : (a == ("__classdict__" : Str)) = false := by decide) :
    PE X (.Call (.Name x p) [.Lambda params body scope lpos] [] pos) (tWork (ι := Unit) (fun _ => lamF X params body scope) (fun _ => some n) TT (fun _ => tb) (tLamb P (X.env.qual ++ "<lambda>") (lamF X params body scope) (some n))) :=
  have L := lamT_by hl
  pe_word D hg Sg hNg hva hG hr (pe_lamb1 TB hcode (fun ok => L.has ok) hdf hk0) (fun _ c dV => ⟨L, rfl, rfl, hbind c dV⟩) (fun _ c dV A outer s H E f h => hbody A outer s H E f c h) hsp hdb hd hcd
theorem passL {A : Around} {outer : List Env} {s : Shared} {H : Hp} {E : XK} {f c' : Addr} : Passes (L2.CX (lamCx X A outer s H E scope f c').prog (lamCx X A outer s H E scope f c').w) (lamCx X A outer s H E scope f c') E := passes_call (takes_of rfl rfl rfl rfl) fun _ _ _ _ h => h
theorem passN {Y : Cx} {P : Program} {w : World} : Passes (L2.CX P w) Y E0 := fun _ _ _ _ _ _ _ h => by
  obtain ⟨_, _, _, _, _, _, _, _, _, _, _, _, z⟩ := h
  exact z.elim
end
end Lmx
namespace Kk
open PySem PySem.Spec PyProof.Rows L2
theorem hu65 {j : Nat} {A : Around} (hr : Room j A) : A.units + 65 < cLine := by have := hr.un; omega
theorem op_inD {X : Cx} {K : PySem.W.Frag} (hu : X.A.units + 65 < cLine) (h : X.K = K := by rfl) : OpR X (compareOp .In) (rInD K) := h ▸ L2.op_inD hu
end Kk
namespace Dl
open PySem PySem.Spec PyProof.Rows L2
open Evl (Ex)
open Lmx LamX
section
variable {K : PySem.W.Frag} {δ : List Slot} {ta tb : TE} {Φ : Slot → List Slot → Prop}
/-- x in a list of data -/
theorem ev_inD (h : EvS K ta δ fun s1 δ1 => EvS K tb δ1 fun s2 δ2 => ∃ x ds, s1 = .pu x ∧ den K δ2 s2 (.list ds) ∧ SeqAt.shaped x = true ∧ SeqAt.shaped (.list ds) = true ∧ Φ (.pu (.bool (ds.any fun z => PyData.eqv z x))) δ2) : EvS K (tOp (rInD K) ta tb) δ Φ :=
  ev_opP (h.imp fun s1 δ1 h1 => h1.imp fun s2 δ2 ⟨x, ds, e1, e2, c1, c2, q⟩ =>
    ⟨x, .list ds, .bool (ds.any fun z => PyData.eqv z x), .inl e1, e2, opP_flat rfl fun B H u v Q e d1 d2 k => ⟨x, ds, d1.dp e, d2.dp e, c1, c2, k⟩, q⟩)
end
section
variable {K : PySem.W.Frag} {δ : List Slot} {tr : TA} {n : Nat} {pre : List PyData → Prop} {T : List PyData → Rt → Prop} {R : List PyData → XP → Prop} {E : XK} {Φ : Slot → List Slot → Prop}
/-- a def that may raise, where it doesn't -/
theorem ev_callX (h : EvDs K tr δ fun ds δ1 => ds.length = n ∧ pre ds ∧ (∀ r, T ds r → Φ (r.slot K) δ1) ∧ ∀ p, ¬ R ds p) : EvS K (tCall (spX K n pre T R) [] E tr) δ Φ := fun B H σ F Q S k =>
  h B H σ F _ S fun vs ds B2 H2 δ1 e f S2 ha ⟨hn, hp, q, q2⟩ => by
    show spX K n pre T R (vs ++ []) H2 Q E
    rw [List.append_nil]
    refine ⟨B2, ds, S2.bh, ha, hn, hp, fun v B3 H3 r g hr hT => ?_, fun p B3 H3 cls d g hR w => absurd hR (q2 p)⟩
    have f3 : ∀ a, F a → H3 a = H a := fun a z => (ex_eq g.h (S2.fl a z)).trans (f a z)
    cases r with
    | d z => exact k v (fun _ => False) (.pu z) B3 H3 δ1 (e.trans g.b) f3 ((S2.grow g).less fun a z => z.elim id False.elim) ⟨hr, fun _ z => z⟩ (fun _ z => z.elim) (q _ hT)
    | l zs =>
      obtain ⟨p, xs, rfl, hp, hb, h3, hx⟩ := hr
      exact k (.ref p) (fun a => a = p) (.ow (RL K zs)) B3 H3 δ1 (e.trans g.b) f3 (sd_fresh S2 g hp hb (by rw [h3]; exact fun z => nomatch z)) ⟨p, xs, rfl, h3, hx, fun _ => Iff.rfl⟩ (fun a z z2 => S2.fl a z2 (by rw [z]; exact hp)) (q _ hT)
end
/-! ### the law's own def, its table empty at the start -/
def spLawT (K : PySem.W.Frag) (P : Addr) : Sp := fun vs H Q _ => ∃ (a : Addr) (ns : List Int), vs = [.ref a] ∧ SqL K H a (ns.map V.int) ∧ ns.length ≤ 63 ∧ H P = some (.tbl #[]) ∧ ∀ H', Q (.bl true) H'
/-- a def whose code object is known -/
structure FunC (K : PySem.W.Frag) (x qual : Str) (st : Stmt) (f c : Addr) (fd : FuncData) : Prop where
  ex : ∃ (oc : Value) (od : Option Addr) (kV doc pm : Value) (an : Option Addr) (ct : Value) (osl : Array (Option Value)),
    fd = PySem.W.fnOf x qual (defArgs st) (defBody st) (defScope st) .none kV doc pm an (.ref c) ct ∧ K.lookup f = some ⟨oc, od, .func fd, osl⟩ ∧ PySem.W.codeIn K (.ref c) qual = true
theorem fnLawT {Pr : Program} {w : World} {K : PySem.W.Frag} {mg : Str → Option Value} {base : Heap} {x p0 q : Str} {st : Stmt} {N : List Str} {k : Nat} {f c P : Addr} {fd : FuncData} (F : FunC K x x st f c fd) (S : FnScope N [p0] (defScope st)) (hN : 1 ≤ N.length)
    (hbody : ∀ (A : Around) (outer : List Env) (s : Shared) (H : Hp) (E : XK), Room k (A.deeper (envOfC x (defScope st) s.heap.objs.size f (.ref c))) →
      ∃ t, PSs (cxOf CX0 Pr w K mg base N x (defScope st) f (.ref c) A outer s H E).nox (defBody st) t ∧ ∀ ns : List Int, ns.length ≤ 63 → ExS K t { nx := fun _ => False, rt := fun s _ => s = .pu (.bool true) } (.ow (RTab K P q (.list (ns.map PyData.int))) :: List.replicate (N.length - 1) Slot.non)) : FnOk Pr w K mg base CX0 (k + 1) f fd [p0] (spLawT K P) := by
  obtain ⟨oc, od, kV, doc, pm, an, ct, osl, rfl, lk, hcd⟩ := F.ex
  refine fn_of lk hcd S (fun vs H Q E ⟨a, ns, e, _⟩ => by rw [e]; rfl) fun A outer s H vs Q E hr hsp => ?_
  obtain ⟨t, h, hx⟩ := hbody A outer s H E hr
  refine ⟨t, h.nox, ?_⟩
  obtain ⟨a, ns, rfl, hs, hl, hT, q1⟩ := hsp
  let B : Hp := fun b => if b = P then none else H b
  have hB : ∀ {b : Addr}, b ≠ P → B b = H b := fun h => if_neg h
  have eB : Ex B H := fun b o e => by
    by_cases hb : b = P
    · have : B b = none := if_pos hb
      rw [this] at e; cases e
    · rw [hB hb] at e; exact e
  have hsB : SqL K B a (ns.map V.int) := by
    rcases hs with h | h
    · refine .inl ?_
      have ne : a ≠ P := fun e => by
        subst e
        rcases h with h | ⟨o, h⟩ <;> rw [hT] at h <;> cases h
      rcases h with h | ⟨o, h⟩
      · exact .inl (by rw [hB ne]; exact h)
      · exact .inr ⟨o, by rw [hB ne]; exact h⟩
    · exact .inr h
  have S0 : Sd K B H (L2.start N [.ref a]) (.ow (RTab K P q (.list (ns.map PyData.int))) :: List.replicate (N.length - 1) Slot.non) (fun _ => False) := by
    refine ⟨eB, by unfold L2.start; simp, fun _ z => z.elim, fun _ z => z.elim, updM (fun _ _ => False) 0 fun b => b = P, fun i s hs => ?_, fun i j b h1 h2 => ?_, fun _ _ _ z => z, fun i b h1 => ?_⟩
    · cases i with
      | zero =>
        cases hs
        rw [updM_eq rfl]
        refine ⟨.ref a, rfl, ⟨.lst hsB (dpa_ints ns), #[], hT, trivial, (fun pos cv h => nomatch (show (none : Option Value) = some cv from h)), fun _ => Iff.rfl⟩, fun b e => by rw [e]; exact if_pos rfl⟩
      | succ i =>
        rw [List.getElem?_cons_succ] at hs
        have e1 := List.mem_of_getElem? hs
        rw [List.eq_of_mem_replicate e1, updM_ne (Nat.succ_ne_zero i)]
        exact fun _ z => z
    · by_cases e1 : i = 0
      · by_cases e2 : j = 0
        · rw [e1, e2]
        · rw [updM_ne e2] at h2; exact h2.elim
      · rw [updM_ne e1] at h1; exact h1.elim
    · by_cases e1 : i = 0
      · rw [e1]; exact Nat.succ_pos _
      · rw [updM_ne e1] at h1; exact h1.elim
  refine hx ns hl B H _ _ _ S0 ⟨fun _ _ _ _ _ _ _ z => z.elim, fun _ _ _ _ _ _ _ z => z.elim, fun _ _ _ _ _ _ _ z => z.elim, fun v M s B2 H2 σ2 δ2 e f S2 w n p => ?_, fun _ _ _ _ _ _ _ _ _ _ _ z => False.elim z⟩
  subst p
  rw [dp_bl_inv w.1]
  exact q1 H2
end Dl

/-! Lm8: class facts of refusals; the end of a law that makes lambdas. -/
namespace Dl
open PySem PySem.Spec PyProof.Rows L2
open LamX
section
variable {K : PySem.W.Frag} {C D : Addr} {b : Bool}
theorem kit_sub (i : PySem.W.isClsIn K D = true) (t : PySem.W.typeIn K (.ref D) = some (.type "type")) (s : PySem.W.subIn K (.ref C) (.ref D) = some b) (hs : PySem.W.subIn K (.ref C) (.ref C) = some true) : PySem.W.kitOne K (.ref C) (.ref D) = some b := by
  unfold PySem.W.kitOne
  by_cases e : (Value.ref C == Value.ref D) = true
  · rw [if_pos e]
    have e2 : Value.ref C = Value.ref D := beq_iff_eq.mp e
    rw [← e2, hs] at s
    exact s
  · rw [if_neg e]
    have h2 : ((PySem.W.clsIn K D).isSome && PySem.W.typeIn K (.ref D) == some (.type "type")) = true := by
      have i' : (PySem.W.clsIn K D).isSome = true := i
      rw [i', t] <;> rfl
    show (if ((PySem.W.clsIn K D).isSome && PySem.W.typeIn K (.ref D) == some (.type "type")) = true then PySem.W.subIn K (.ref C) (.ref D) else none) = some b
    rw [if_pos h2]
    exact s
theorem kit_ve (s : PySem.W.subIn K (.ref C) (.type "ValueError") = some true) : PySem.W.kitOne K (.ref C) (.type "ValueError") = some true := by
  unfold PySem.W.kitOne
  have e : (Value.ref C == Value.type "ValueError") = false := beq_eq_false_iff_ne.mpr (fun z => nomatch z)
  rw [if_neg (by rw [e]; exact Bool.false_ne_true)]
  show (if PySem.W.kitMeta "ValueError" = true then PySem.W.subIn K (.ref C) (.type "ValueError") else none) = some true
  rw [if_pos (show PySem.W.kitMeta "ValueError" = true from by decide +kernel)]
  exact s
theorem exm_mk (h1 : PySem.W.subIn K (.ref D) (.type "BaseException") = some true) (i : PySem.W.isClsIn K D = true) (t : PySem.W.typeIn K (.ref D) = some (.type "type")) (s : PySem.W.subIn K (.ref C) (.ref D) = some true) : PySem.W.exmOne K (.ref C) (.ref D) = some true := by
  have e1 : (PySem.W.subIn K (.ref D) (.type "BaseException") == some true) = true := by rw [h1] <;> rfl
  have e2 : ((PySem.W.clsIn K D).isSome && PySem.W.typeIn K (.ref D) == some (.type "type")) = true := by
    have i' : (PySem.W.clsIn K D).isSome = true := i
    rw [i', t] <;> rfl
  show (if (PySem.W.subIn K (.ref D) (.type "BaseException") == some true) = true then (if ((PySem.W.clsIn K D).isSome && PySem.W.typeIn K (.ref D) == some (.type "type")) = true then PySem.W.subIn K (.ref C) (.ref D) else none) else none) = some true
  rw [if_pos e1, if_pos e2]
  exact s
end
/-- the law with its table -/
theorem lawAt {l : PySem.W.OpenLaw} {w : World} {K : PySem.W.Frag} {k : Nat} {p0 : Str} {mg : Str → Option Value} {fa c P : Addr} {h : Heap} {fd : FuncData} {o : Obj} {odc : Option Addr} {vs : Array Value} {slc : Array (Option Value)} {file : Str} {tf tg tt : Tok} {flags text : Int} {inF : Bool}
    (X : K.In h) (own : OwnTab K fa h) (lf : K.lookup fa = some o) (ho : o.data = .func fd) (hc : fd.code = .ref c) (lc : K.lookup c = some ⟨.type "code", odc, .fields vs, slc⟩) (v11 : vs[11]? = some (.ref P)) (v18 : vs.getD 18 .none = .str file tf) (v7 : vs.getD 7 .none = .int flags tg) (v9 : vs.getD 9 .none = .bool inF) (v10 : vs.getD 10 .none = .int text tt) (nP : K.lookup P = none)
    (hb : ∀ (s : Shared) (u : Value), BindsTo s fd ⟨[u], []⟩ [(p0, u)]) (F : ∀ base : Heap, K.In base → base.Ns mainGlobals mg → TabB base mg c P → FnOk l.prog w K mg base CX0 k fa fd [p0] (spLawT K P)) : LawAtS l w K CX0 k 63 p0 mg fa h := by
  have hT : h.get? P = some { cls := .none, data := .fields #[] } := own c P o fd _ _ _ _ lf ho hc lc v11
  have ne : c ≠ P := fun e => by rw [← e, lc] at nP; cases nP
  refine ⟨fd, [(c, P)], spLawT K P, fun p hp => ?_, fun p hp => ?_, fun p hp => ?_, hb, fun H a ns hl _ hH hs => ?_, fun base hX hG hTB => F base hX hG (hTB (c, P) (List.mem_singleton.mpr rfl))⟩
  · rw [List.mem_singleton.mp hp]; exact hT
  · rw [List.mem_singleton.mp hp]; exact nP
  · rw [List.mem_singleton.mp hp]
    exact ⟨_, vs, file, tf, flags, tg, inF, text, tt, X _ _ lc, rfl, rfl, v11, by rw [Array.getD_eq_getD_getElem?, v11]; rfl, v18, v7, v9, v10, ne⟩
  · exact ⟨a, ns, rfl, hs, hl, hH (c, P) (List.mem_singleton.mpr rfl), fun _ => rfl⟩
end Dl

set_option simprocs false

namespace Kr
open PySem PySem.Spec PyProof.Rows L2
def topS (i : Nat) : Stmt := PySem.Challenge.pw_keeprunning_k15_texts_refused.main.body.getD i (.Pass ⟨0, 0, 0, 0⟩)
abbrev s_is_between : Stmt := topS 11
theorem sc_is_between : FnScope ["part", "low", "high"] ["part", "low", "high"] (defScope s_is_between) := ⟨rfl, rfl, rfl, by decide +kernel, rfl, by decide +kernel, by decide +kernel⟩
abbrev s_is_service : Stmt := topS 12
theorem sc_is_service : FnScope ["service", "many", "number", "wants", "one", "k"] ["service", "many", "number"] (defScope s_is_service) := ⟨rfl, rfl, rfl, by decide +kernel, rfl, by decide +kernel, by decide +kernel⟩
abbrev s_ring_from : Stmt := topS 13
theorem sc_ring_from : FnScope ["plan", "begin", "level", "met", "further", "row", "one"] ["plan", "begin"] (defScope s_ring_from) := ⟨rfl, rfl, rfl, by decide +kernel, rfl, by decide +kernel, by decide +kernel⟩
abbrev s_first_ring : Stmt := topS 14
theorem sc_first_ring : FnScope ["plan", "best", "number", "row"] ["plan"] (defScope s_first_ring) := ⟨rfl, rfl, rfl, by decide +kernel, rfl, by decide +kernel, by decide +kernel⟩
abbrev s_need_services : Stmt := topS 15
theorem sc_need_services : FnScope ["plan", "number", "service"] ["plan"] (defScope s_need_services) := ⟨rfl, rfl, rfl, by decide +kernel, rfl, by decide +kernel, by decide +kernel⟩
abbrev s_need_plan : Stmt := topS 16
theorem sc_need_plan : FnScope ["plan", "ring"] ["plan"] (defScope s_need_plan) := ⟨rfl, rfl, rfl, by decide +kernel, rfl, by decide +kernel, by decide +kernel⟩
abbrev s_written : Stmt := topS 20
theorem sc_written : FnScope ["plan", "rows", "service", "wants", "one", "part"] ["plan"] (defScope s_written) := ⟨rfl, rfl, rfl, by decide +kernel, rfl, by decide +kernel, by decide +kernel⟩
abbrev s_number_of : Stmt := topS 21
theorem sc_number_of : FnScope ["word", "sign"] ["word"] (defScope s_number_of) := ⟨rfl, rfl, rfl, by decide +kernel, rfl, by decide +kernel, by decide +kernel⟩
abbrev s_numbers_of : Stmt := topS 22
theorem sc_numbers_of : FnScope ["words", "found", "word"] ["words"] (defScope s_numbers_of) := ⟨rfl, rfl, rfl, by decide +kernel, rfl, by decide +kernel, by decide +kernel⟩
abbrev s_row_of : Stmt := topS 23
theorem sc_row_of : FnScope ["line", "words", "wants", "rest"] ["line"] (defScope s_row_of) := ⟨rfl, rfl, rfl, by decide +kernel, rfl, by decide +kernel, by decide +kernel⟩
abbrev s_read : Stmt := topS 24
theorem sc_read : FnScope ["text", "found", "number", "line", "service"] ["text"] (defScope s_read) := ⟨rfl, rfl, rfl, by decide +kernel, rfl, by decide +kernel, by decide +kernel⟩
abbrev s__law_dice : Stmt := topS 26
theorem sc__law_dice : FnScope ["_law_script", "_law_k", "_law_found", "_law_cell"] ["_law_script", "_law_k"] (defScope s__law_dice) := ⟨rfl, rfl, rfl, by decide +kernel, rfl, by decide +kernel, by decide +kernel⟩
abbrev s__law_off : Stmt := topS 27
theorem sc__law_off : FnScope ["_law_d", "_law_most", "_law_found"] ["_law_d", "_law_most"] (defScope s__law_off) := ⟨rfl, rfl, rfl, by decide +kernel, rfl, by decide +kernel, by decide +kernel⟩
abbrev s__law_alike : Stmt := topS 28
theorem sc__law_alike : FnScope ["_law_found", "_law_due", "_law_k"] ["_law_found", "_law_due"] (defScope s__law_alike) := ⟨rfl, rfl, rfl, by decide +kernel, rfl, by decide +kernel, by decide +kernel⟩
abbrev s__law_mixed : Stmt := topS 29
theorem sc__law_mixed : FnScope ["_law_d", "_law_row_here", "_law_left", "_law_found"] ["_law_d", "_law_row_here"] (defScope s__law_mixed) := ⟨rfl, rfl, rfl, by decide +kernel, rfl, by decide +kernel, by decide +kernel⟩
abbrev s__law_word : Stmt := topS 30
theorem sc__law_word : FnScope ["_law_work", "e", "_law_kinds", "_law_word_here"] ["_law_work"] (defScope s__law_word) := ⟨rfl, rfl, rfl, by decide +kernel, rfl, by decide +kernel, by decide +kernel⟩
abbrev s__law_times : Stmt := topS 31
theorem sc__law_times : FnScope ["_law_d", "_law_few", "_law_tries", "_law_stays"] ["_law_d"] (defScope s__law_times) := ⟨rfl, rfl, rfl, by decide +kernel, rfl, by decide +kernel, by decide +kernel⟩
abbrev s__law_plan : Stmt := topS 32
theorem sc__law_plan : FnScope ["_law_d", "_law_limit", "_law_many", "_law_order_of", "_law_kind", "_law_often", "_law_wants", "_law_place", "_law_some", "_law_k", "_law_number_here"] ["_law_d", "_law_limit"] (defScope s__law_plan) := ⟨rfl, rfl, rfl, by decide +kernel, rfl, by decide +kernel, by decide +kernel⟩
abbrev s__law_number : Stmt := topS 33
theorem sc__law_number : FnScope ["_law_word_here", "_law_number_here"] ["_law_word_here"] (defScope s__law_number) := ⟨rfl, rfl, rfl, by decide +kernel, rfl, by decide +kernel, by decide +kernel⟩
abbrev s__law_row : Stmt := topS 34
theorem sc__law_row : FnScope ["_law_row_here", "_law_words", "_law_wants", "_law_rest", "_law_word_here"] ["_law_row_here"] (defScope s__law_row) := ⟨rfl, rfl, rfl, by decide +kernel, rfl, by decide +kernel, by decide +kernel⟩
abbrev s__law_changed : Stmt := topS 35
theorem sc__law_changed : FnScope ["_law_d", "_law_text", "_law_kind", "_law_at", "_law_signs", "_law_sign", "_law_rows", "_law_k", "_law_two", "_law_words", "_law_j", "_law_odd"] ["_law_d", "_law_text"] (defScope s__law_changed) := ⟨rfl, rfl, rfl, by decide +kernel, rfl, by decide +kernel, by decide +kernel⟩
abbrev s_law : Stmt := topS 36
theorem sc_law : FnScope ["_law_script", "_law_d", "_law_some", "_law_turn", "_law_text", "_law_change", "_law_rows", "_law_due", "_law_row_here"] ["_law_script"] (defScope s_law) := ⟨rfl, rfl, rfl, by decide +kernel, rfl, by decide +kernel, by decide +kernel⟩
abbrev s_BadPlan___init__ : Stmt := inClass (topS 2) 0
theorem sc_BadPlan___init__ : FnScope ["self", "number"] ["self", "number"] (defScope s_BadPlan___init__) := ⟨rfl, rfl, rfl, by decide +kernel, rfl, by decide +kernel, by decide +kernel⟩
abbrev s_BadRing___init__ : Stmt := inClass (topS 3) 0
theorem sc_BadRing___init__ : FnScope ["self", "ring"] ["self", "ring"] (defScope s_BadRing___init__) := ⟨rfl, rfl, rfl, by decide +kernel, rfl, by decide +kernel, by decide +kernel⟩
abbrev s_BadLog___init__ : Stmt := inClass (topS 6) 0
theorem sc_BadLog___init__ : FnScope ["self", "row"] ["self", "row"] (defScope s_BadLog___init__) := ⟨rfl, rfl, rfl, by decide +kernel, rfl, by decide +kernel, by decide +kernel⟩
abbrev s_BadText___init__ : Stmt := inClass (topS 7) 0
theorem sc_BadText___init__ : FnScope ["self", "row"] ["self", "row"] (defScope s_BadText___init__) := ⟨rfl, rfl, rfl, by decide +kernel, rfl, by decide +kernel, by decide +kernel⟩
end Kr

namespace Kr
open PySem Dl
/-! ### plans as data -/
structure Svc where
  wants : List Nat
  takes : Int
  ends : Int
  waits : Int
  stays : Int
  tries : Int
abbrev Pl := List Svc
def iz (ns : List Nat) : List Int := ns.map fun (n : Nat) => (n : Int)
def svcD (s : Svc) : PyData := .tuple [.tuple ((iz s.wants).map PyData.int), .int s.takes, .int s.ends, .int s.waits, .int s.stays, .int s.tries]
def planD (p : Pl) : PyData := .tuple (p.map svcD)
def wantsOf (p : Pl) (i : Nat) : List Nat := match p[i]? with
  | some s => s.wants
  | none => []
structure GoodS (m i : Nat) (s : Svc) : Prop where
  rise : s.wants.Pairwise (· < ·)
  below : ∀ x ∈ s.wants, x < m ∧ x ≠ i
  takes : 1 ≤ s.takes ∧ s.takes ≤ 20
  ends : 1 ≤ s.ends ∧ s.ends ≤ 20
  waits : 1 ≤ s.waits ∧ s.waits ≤ 20
  stays : 1 ≤ s.stays ∧ s.stays ≤ 50
  tries : 1 ≤ s.tries ∧ s.tries ≤ 9
/-- services that may be, no rings said of -/
structure Sound (p : Pl) : Prop where
  one : 1 ≤ p.length
  few : p.length ≤ 12
  svc : ∀ (i : Nat) (s : Svc), p[i]? = some s → GoodS p.length i s
/-- no rings: a rank that falls along wants -/
def NoRing (p : Pl) : Prop := ∃ rank : Nat → Nat, ∀ i x, x ∈ wantsOf p i → rank x < rank i
structure Good (p : Pl) : Prop where
  sound : Sound p
  free : NoRing p
theorem iz_mem {n : Nat} {ns : List Nat} : (n : Int) ∈ iz ns ↔ n ∈ ns := by
  unfold iz
  constructor
  · intro h
    obtain ⟨m, hm, e⟩ := List.mem_map.mp h
    have : m = n := by omega
    exact this ▸ hm
  · intro h
    exact List.mem_map.mpr ⟨n, h, rfl⟩
theorem iz_app (a b : List Nat) : iz (a ++ b) = iz a ++ iz b := List.map_append
theorem iz_ex {a : Int} {ns : List Nat} (h : a ∈ iz ns) : ∃ x : Nat, a = (x : Int) ∧ x ∈ ns := by
  obtain ⟨x, hx, e⟩ := List.mem_map.mp h
  exact ⟨x, e.symm, hx⟩
theorem iz_rise {ns : List Nat} (h : ns.Pairwise (· < ·)) : (iz ns).Pairwise (· < ·) := by
  unfold iz
  rw [List.pairwise_map]
  exact h.imp fun z => by omega
theorem iz_len (ns : List Nat) : (iz ns).length = ns.length := List.length_map _
theorem wantsOf_some {p : Pl} {i : Nat} {s : Svc} (h : p[i]? = some s) : wantsOf p i = s.wants := by unfold wantsOf; rw [h]
theorem Sound.wants_lt {p : Pl} (h : Sound p) {i x : Nat} (hx : x ∈ wantsOf p i) : x < p.length := by
  unfold wantsOf at hx
  cases e : p[i]? with
  | none => rw [e] at hx; cases hx
  | some s => rw [e] at hx; exact ((h.svc i s e).below x hx).1
theorem rise_len : ∀ {ns : List Nat} {m lo : Nat}, ns.Pairwise (· < ·) → (∀ x ∈ ns, lo ≤ x ∧ x < m) → ns.length ≤ m - lo
  | [], _, _, _, _ => Nat.zero_le _
  | a :: r, m, lo, h, hb => by
    obtain ⟨h1, h2⟩ := List.pairwise_cons.mp h
    have ha := hb a (List.mem_cons_self ..)
    have := rise_len (ns := r) (m := m) (lo := a + 1) h2 fun x hx => ⟨h1 x hx, (hb x (List.mem_cons_of_mem _ hx)).2⟩
    rw [List.length_cons]
    omega
theorem GoodS.few {m i : Nat} {s : Svc} (h : GoodS m i s) : s.wants.length ≤ m := by
  have := rise_len (m := m) (lo := 0) h.rise fun x hx => ⟨Nat.zero_le _, (h.below x hx).1⟩
  omega
def listD (l : List Nat) : List PyData := (iz l).map PyData.int
theorem listD_len (l : List Nat) : (listD l).length = l.length := by simp [listD, iz]
theorem listD_app (l m : List Nat) : listD (l ++ m) = listD l ++ listD m := by simp [listD, iz]
theorem planD_inj {p q : Pl} (h : planD p = planD q) : p = q := by
  unfold planD at h
  injection h with h
  have hj : ∀ (a b : Svc), svcD a = svcD b → a = b := by
    rintro ⟨a1, a2, a3, a4, a5, a6⟩ ⟨b1, b2, b3, b4, b5, b6⟩ h
    simp only [svcD, PyData.tuple.injEq, List.cons.injEq, PyData.int.injEq, and_true] at h
    obtain ⟨h1, rfl, rfl, rfl, rfl, rfl⟩ := h
    have e : iz a1 = iz b1 := List.map_inj_right (fun x y h => PyData.int.inj h) |>.mp h1
    have e2 : a1 = b1 := List.map_inj_right (fun (x y : Nat) (h : (x : Int) = (y : Int)) => by omega) |>.mp e
    rw [e2]
  exact List.map_inj_right hj |>.mp h
end Kr

namespace Kr
open PySem Dl
/-! ### orders -/
def rdy (p : Pl) (l : List Nat) (i : Nat) : Bool := decide (i ∉ l) && (wantsOf p i).all fun x => decide (x ∈ l)
def IsStep (p : Pl) (l : List Nat) (m : Nat) : Prop := m < p.length ∧ rdy p l m = true ∧ ∀ j, j < m → rdy p l j = false
theorem IsStep.one {p : Pl} {l : List Nat} {m m' : Nat} (h : IsStep p l m) (h' : IsStep p l m') : m = m' := by
  rcases Nat.lt_trichotomy m m' with e | e | e
  · have := h'.2.2 m e
    rw [h.2.1] at this
    cases this
  · exact e
  · have := h.2.2 m' e
    rw [h'.2.1] at this
    cases this
inductive Ord (p : Pl) : List Nat → Prop
  | nil : Ord p []
  | snoc {l : List Nat} {m : Nat} : Ord p l → IsStep p l m → Ord p (l ++ [m])
theorem Ord.one {p : Pl} {l : List Nat} (h : Ord p l) : ∀ {l' : List Nat}, Ord p l' → l.length = l'.length → l = l' := by
  induction h with
  | nil =>
    intro l' h' e
    exact (List.length_eq_zero_iff.mp e.symm).symm
  | @snoc l m h1 h2 ih =>
    intro l' h' e
    cases h' with
    | nil => simp at e
    | @snoc l2 m2 h3 h4 =>
      have e2 : l = l2 := ih h3 (by simpa using e)
      subst e2
      rw [h2.one h4]
theorem Ord.mem {p : Pl} {l : List Nat} (h : Ord p l) : (∀ x ∈ l, x < p.length) ∧ l.Nodup := by
  induction h with
  | nil => exact ⟨by simp, List.nodup_nil⟩
  | @snoc l m h1 h2 ih =>
    refine ⟨fun x hx => ?_, ?_⟩
    · rcases List.mem_append.mp hx with hx | hx
      · exact ih.1 x hx
      · rw [List.mem_singleton.mp hx]
        exact h2.1
    · rw [List.nodup_append]
      refine ⟨ih.2, List.nodup_cons.mpr ⟨by simp, List.nodup_nil⟩, fun a ha b hb e => ?_⟩
      rw [List.mem_singleton.mp hb] at e
      have := h2.2.1
      unfold rdy at this
      rw [Bool.and_eq_true] at this
      exact (of_decide_eq_true this.1) (e ▸ ha)
theorem cover : ∀ (n : Nat) (l : List Nat), (∀ i, i < n → i ∈ l) → n ≤ l.length
  | 0, _, _ => Nat.zero_le _
  | n + 1, l, h => by
    have h1 : n ∈ l := h n (Nat.lt_succ_self n)
    have := cover n (l.erase n) fun i hi => (List.mem_erase_of_ne (by omega)).mpr (h i (by omega))
    rw [List.length_erase_of_mem h1] at this
    have := List.length_pos_of_mem h1
    omega
theorem nodup_len : ∀ (n : Nat) (l : List Nat), l.Nodup → (∀ x ∈ l, x < n) → l.length ≤ n
  | 0, [], _, _ => Nat.le_refl _
  | 0, k :: _, _, h => absurd (h k (List.mem_cons_self ..)) (by omega)
  | n + 1, ks, hd, h => by
    have := nodup_len n (ks.erase n) (hd.erase _) fun k hk => by
      obtain ⟨a, b⟩ := (hd.mem_erase_iff).mp hk
      have := h k b
      omega
    have := List.length_erase (a := n) (l := ks)
    split at this <;> omega
theorem Ord.len {p : Pl} {l : List Nat} (h : Ord p l) : l.length ≤ p.length := nodup_len _ _ h.mem.2 h.mem.1
theorem missing {n : Nat} {l : List Nat} (h : l.length < n) : ∃ i, i < n ∧ i ∉ l := Classical.byContradiction fun hn => by
  have := cover n l fun i hi => Classical.byContradiction fun hi2 => hn ⟨i, hi, hi2⟩
  omega
theorem ready_ex {p : Pl} (hg : Good p) {l : List Nat} (h : l.length < p.length) : ∃ i, i < p.length ∧ rdy p l i = true := by
  obtain ⟨rank, hr⟩ := hg.free
  have key : ∀ (n i : Nat), rank i ≤ n → i < p.length → i ∉ l → ∃ i, i < p.length ∧ rdy p l i = true := by
    intro n
    induction n with
    | zero =>
      intro i hi hl hn
      refine ⟨i, hl, ?_⟩
      unfold rdy
      rw [Bool.and_eq_true, List.all_eq_true]
      exact ⟨decide_eq_true hn, fun x hx => absurd (hr i x hx) (by omega)⟩
    | succ n ih =>
      intro i hi hl hn
      by_cases ha : (wantsOf p i).all (fun x => decide (x ∈ l)) = true
      · exact ⟨i, hl, by unfold rdy; rw [Bool.and_eq_true]; exact ⟨decide_eq_true hn, ha⟩⟩
      · rw [List.all_eq_true] at ha
        obtain ⟨x, hx, hx2⟩ : ∃ x, x ∈ wantsOf p i ∧ x ∉ l := Classical.byContradiction fun hc => ha fun x hx => decide_eq_true (Classical.byContradiction fun h2 => hc ⟨x, hx, h2⟩)
        exact ih x (by have := hr i x hx; omega) (hg.sound.wants_lt hx) hx2
  obtain ⟨i, h1, h2⟩ := missing h
  exact key (rank i) i (Nat.le_refl _) h1 h2
/-- the least that is ready -/
theorem step_ex {p : Pl} (hg : Good p) {l : List Nat} (h : l.length < p.length) : ∃ m, IsStep p l m := by
  obtain ⟨i, h1, h2⟩ := ready_ex hg h
  have key : ∀ (n i : Nat), i ≤ n → i < p.length → rdy p l i = true → ∃ m, IsStep p l m := by
    intro n
    induction n with
    | zero => exact fun i hi hl hr => ⟨i, hl, hr, fun j hj => by omega⟩
    | succ n ih =>
      intro i hi hl hr
      by_cases hc : ∃ j, j < i ∧ rdy p l j = true
      · obtain ⟨j, hj, hj2⟩ := hc
        exact ih j (by omega) (by omega) hj2
      · exact ⟨i, hl, hr, fun j hj => by
          cases e : rdy p l j with
          | false => rfl
          | true => exact absurd ⟨j, hj, e⟩ hc⟩
  exact key i i (Nat.le_refl _) h1 h2
/-- what the code reads: no want is outside -/
theorem outs_nil {l ws : List Nat} : (((iz ws).filter fun a => !decide (a ∈ iz l)).map PyData.int).isEmpty = ws.all fun x => decide (x ∈ l) := by
  induction ws with
  | nil => rfl
  | cons x r ih =>
    rw [List.all_cons, ← ih]
    show ((((x : Int) :: iz r).filter _).map PyData.int).isEmpty = _
    rw [List.filter_cons]
    by_cases h : x ∈ l
    · rw [decide_eq_true (iz_mem.mpr h), decide_eq_true h]
      rfl
    · rw [decide_eq_false (fun z => h (iz_mem.mp z)), decide_eq_false h]
      rfl
end Kr

namespace Kr
open PySem Dl
/-! ### what is left -/
def rest (n : Nat) (due : List Nat) : List Nat := (List.range n).filter fun i => decide (i ∉ due)
theorem rest_mem {n : Nat} {due : List Nat} {i : Nat} : i ∈ rest n due ↔ i < n ∧ i ∉ due := by
  unfold rest
  rw [List.mem_filter, List.mem_range]
  exact ⟨fun ⟨a, b⟩ => ⟨a, of_decide_eq_true b⟩, fun ⟨a, b⟩ => ⟨a, decide_eq_true b⟩⟩
theorem rest_nd {n : Nat} {due : List Nat} : (rest n due).Nodup := List.nodup_range.sublist List.filter_sublist
theorem rest_nil {n : Nat} : rest n [] = List.range n := by
  unfold rest
  rw [List.filter_eq_self]
  intro a _
  exact decide_eq_true (by simp)
theorem rest_snoc {n i : Nat} {due : List Nat} : rest n (due ++ [i]) = (rest n due).erase i := by
  rw [rest_nd.erase_eq_filter]
  unfold rest
  rw [List.filter_filter]
  refine List.filter_congr fun x _ => ?_
  by_cases h1 : x ∈ due
  · simp [h1]
  · by_cases h2 : x = i
    · simp [h1, h2]
    · simp [h1, h2]
theorem rest_len {n : Nat} {due : List Nat} : (rest n due).length ≤ n := by
  have := List.length_filter_le (fun i => decide (i ∉ due)) (List.range n)
  rwa [List.length_range] at this
/-- the law's own test: no want is left -/
def noWant (p : Pl) (left : List Nat) (a : Int) : Bool := (((iz (wantsOf p a.toNat)).filter fun x => decide (x ∈ iz left)).map PyData.int).isEmpty
theorem noWant_iff {p : Pl} {left : List Nat} {i : Nat} : noWant p left (i : Int) = true ↔ ∀ x ∈ wantsOf p i, x ∉ left := by
  unfold noWant
  rw [Int.toNat_natCast, List.isEmpty_map, List.isEmpty_iff, List.filter_eq_nil_iff]
  constructor
  · intro h x hx hl
    exact h (x : Int) (iz_mem.mpr hx) (decide_eq_true (iz_mem.mpr hl))
  · intro h a ha hb
    obtain ⟨x, rfl, hx⟩ := iz_ex ha
    exact h x hx (iz_mem.mp (of_decide_eq_true hb))
theorem isStep_of {p : Pl} (hg : Good p) {due : List Nat} {m : Int} (h1 : m ∈ (iz (rest p.length due)).filter (noWant p (rest p.length due))) (h2 : ∀ y, y ∈ (iz (rest p.length due)).filter (noWant p (rest p.length due)) → m ≤ y) : ∃ i : Nat, m = (i : Int) ∧ IsStep p due i ∧ i ∈ rest p.length due := by
  obtain ⟨ha, hb⟩ := List.mem_filter.mp h1
  obtain ⟨i, rfl, hi⟩ := iz_ex ha
  have key : ∀ j : Nat, j < p.length → (rdy p due j = true ↔ (j ∈ rest p.length due ∧ noWant p (rest p.length due) (j : Int) = true)) := fun j hj => by
    unfold rdy
    rw [Bool.and_eq_true, List.all_eq_true, noWant_iff, rest_mem]
    constructor
    · rintro ⟨a, b⟩
      exact ⟨⟨hj, of_decide_eq_true a⟩, fun x hx hl => (rest_mem.mp hl).2 (of_decide_eq_true (b x hx))⟩
    · rintro ⟨⟨_, a⟩, b⟩
      refine ⟨decide_eq_true a, fun x hx => decide_eq_true (Classical.byContradiction fun hn => b x hx (rest_mem.mpr ⟨hg.sound.wants_lt hx, hn⟩))⟩
  have hil := (rest_mem.mp hi).1
  refine ⟨i, rfl, ⟨hil, (key i hil).mpr ⟨hi, hb⟩, fun j hj => ?_⟩, hi⟩
  cases e : rdy p due j with
  | false => rfl
  | true =>
    obtain ⟨a, b⟩ := (key j (by omega)).mp e
    have := h2 (j : Int) (List.mem_filter.mpr ⟨iz_mem.mpr a, b⟩)
    omega
theorem ready_pos {p : Pl} (hg : Good p) {due : List Nat} (h : due.length < p.length) : 0 < ((iz (rest p.length due)).filter (noWant p (rest p.length due))).length := by
  obtain ⟨i, hi, hr⟩ := ready_ex hg h
  unfold rdy at hr
  rw [Bool.and_eq_true, List.all_eq_true] at hr
  refine List.length_pos_of_mem (a := (i : Int)) (List.mem_filter.mpr ⟨iz_mem.mpr (rest_mem.mpr ⟨hi, of_decide_eq_true hr.1⟩), noWant_iff.mpr fun x hx hl => (rest_mem.mp hl).2 (of_decide_eq_true (hr.2 x hx))⟩)
theorem rest_empty {p : Pl} {due : List Nat} (ho : Ord p due) (h : rest p.length due = []) : due.length = p.length := by
  have h1 := ho.len
  have h2 := cover p.length due fun i hi => Classical.byContradiction fun hn => by
    have := rest_mem.mpr ⟨hi, hn⟩
    rw [h] at this
    cases this
  omega
theorem rest_some {p : Pl} {due : List Nat} {i : Nat} (ho : Ord p due) (h : i ∈ rest p.length due) : due.length < p.length := by
  rcases Nat.lt_or_ge due.length p.length with h1 | h1
  · exact h1
  · obtain ⟨a, b⟩ := rest_mem.mp h
    have : (due ++ [i]).length ≤ p.length := nodup_len _ _ (by
      rw [List.nodup_append]
      refine ⟨ho.mem.2, List.nodup_cons.mpr ⟨by simp, List.nodup_nil⟩, fun x hx y hy e => ?_⟩
      rw [List.mem_singleton.mp hy] at e
      exact b (e ▸ hx)) fun x hx => by
      rcases List.mem_append.mp hx with hx | hx
      · exact ho.mem.1 x hx
      · rw [List.mem_singleton.mp hx]
        exact a
    rw [List.length_append] at this
    simp at this
    omega
/-- the first place of a number -/
theorem first_at : ∀ {l : List Nat} {x : Nat}, x ∈ l → ∃ i, (iz l)[i]? = some (x : Int) ∧ (∀ m : Nat, m < i → (iz l)[m]? ≠ some (x : Int)) ∧ (iz l).eraseIdx i = iz (l.erase x)
  | a :: r, x, h => by
    by_cases e : a = x
    · subst e
      refine ⟨0, rfl, fun m hm => absurd hm (Nat.not_lt_zero m), ?_⟩
      rw [List.erase_cons_head]
      rfl
    · obtain ⟨i, h1, h2, h3⟩ := first_at (l := r) (x := x) (by
        rcases List.mem_cons.mp h with h | h
        · exact absurd h.symm e
        · exact h)
      refine ⟨i + 1, h1, fun m hm => ?_, ?_⟩
      · cases m with
        | zero =>
          intro hz
          have : (a : Int) = (x : Int) := Option.some.inj hz
          exact e (by omega)
        | succ m => exact h2 m (by omega)
      · rw [List.erase_cons_tail (by simpa using e)]
        show (a : Int) :: (iz r).eraseIdx i = _
        rw [h3]
        rfl
end Kr

namespace Kr
open PySem PySem.Spec PyProof.Rows Dl
open TL (tl numL)
/-! ### plans as texts -/
def numI (i : Int) : Str := Str.ofString (toString i)
theorem tl_numI (n : Nat) : tl (numI (n : Int)) = numL n := TL.tl_num n
theorem numI_len {n : Nat} (h : n < 100) : (numI (n : Int)).length ≤ 2 := by
  rw [TL.len_tl, tl_numI]
  exact TL.numL_len (k := 2) (by decide) h
theorem numI_ne (n : Nat) : 1 ≤ (numI (n : Int)).length := by
  rw [TL.len_tl, tl_numI]
  exact List.length_pos_iff.mpr (TL.numL_ne n)
theorem numI_dig {n c : Nat} (h : c ∈ tl (numI (n : Int))) : 48 ≤ c ∧ c ≤ 57 := by
  rw [tl_numI] at h
  exact TL.numL_digits n c h
theorem numI_int {n : Nat} (h : n < 100) : PySem.intText? (numI (n : Int)) = some (n : Int) := TL.int_num (by
  have := TL.numL_len (n := n) (k := 2) (by decide) h
  omega)
theorem numL_head : ∀ n : Nat, n < 100 → 1 < (numL n).length → (numL n)[0]? ≠ some 48 := by decide +kernel
def dashS : Str := Str.ofString "-"
def commaS : Str := Str.ofString ","
def blankS : Str := Str.ofString " "
def lineS : Str := Str.ofString "\n"
def wantsW (s : Svc) : Str := if s.wants = [] then dashS else Txt.join commaS (s.wants.map fun (n : Nat) => numI (n : Int))
def partsOf (s : Svc) : List Int := [s.takes, s.ends, s.waits, s.stays, s.tries]
def wordsOf (s : Svc) : List Str := wantsW s :: (partsOf s).map numI
def rowT (s : Svc) : Str := Txt.join blankS (wordsOf s)
def textOf (p : Pl) : Str := Txt.join lineS (p.map rowT)
theorem joinL_mem {S : List Nat} {c : Nat} : ∀ {ps : List (List Nat)}, c ∈ TL.joinL S ps → c ∈ S ∨ ∃ p ∈ ps, c ∈ p
  | [], h => nomatch h
  | [p], h => .inr ⟨p, List.mem_singleton.mpr rfl, h⟩
  | p :: q :: r, h => by
    have h' : c ∈ p ++ (S ++ TL.joinL S (q :: r)) := h
    rcases List.mem_append.mp h' with h | h
    · exact .inr ⟨p, List.mem_cons_self .., h⟩
    rcases List.mem_append.mp h with h | h
    · exact .inl h
    rcases joinL_mem h with h | ⟨z, hz, hc⟩
    · exact .inl h
    · exact .inr ⟨z, List.mem_cons_of_mem _ hz, hc⟩
theorem joinL_len {S : List Nat} {b : Nat} : ∀ {ps : List (List Nat)}, (∀ p ∈ ps, p.length ≤ b) → (TL.joinL S ps).length ≤ ps.length * (b + S.length)
  | [], _ => Nat.zero_le _
  | [p], h => by
    have := h p (List.mem_singleton.mpr rfl)
    show p.length ≤ 1 * (b + S.length)
    omega
  | p :: q :: r, h => by
    have h1 := h p (List.mem_cons_self ..)
    have h2 := joinL_len (S := S) (b := b) (ps := q :: r) fun z hz => h z (List.mem_cons_of_mem _ hz)
    show (p ++ (S ++ TL.joinL S (q :: r))).length ≤ ((q :: r).length + 1) * (b + S.length)
    rw [List.length_append, List.length_append, Nat.add_mul]
    omega
theorem join_mem {y : Str} {c : Nat} {ps : List Str} (h : c ∈ tl (Txt.join y ps)) : c ∈ tl y ∨ ∃ p ∈ ps, c ∈ tl p := by
  rw [TL.join_eq, TL.tl_join] at h
  rcases joinL_mem h with h | ⟨z, hz, hc⟩
  · exact .inl h
  · obtain ⟨p, hp, rfl⟩ := List.mem_map.mp hz
    exact .inr ⟨p, hp, hc⟩
theorem join_len {y : Str} {b : Nat} {ps : List Str} (h : ∀ p ∈ ps, p.length ≤ b) : (Txt.join y ps).length ≤ ps.length * (b + y.length) := by
  rw [TL.join_eq, TL.len_tl, TL.tl_join, TL.len_tl y]
  have := joinL_len (S := tl y) (b := b) (ps := ps.map tl) fun z hz => by
    obtain ⟨p, hp, rfl⟩ := List.mem_map.mp hz
    rw [← TL.len_tl]
    exact h p hp
  rwa [List.length_map] at this
theorem sum_len {b : Nat} : ∀ {ps : List Str}, (∀ p ∈ ps, p.length ≤ b) → (ps.map (·.length)).sum ≤ ps.length * b
  | [], _ => Nat.zero_le _
  | p :: r, h => by
    have h1 := h p (List.mem_cons_self ..)
    have h2 := sum_len (ps := r) fun z hz => h z (List.mem_cons_of_mem _ hz)
    rw [List.map_cons, List.sum_cons, List.length_cons, Nat.add_mul]
    omega
theorem GoodS.num {m i : Nat} {s : Svc} (h : GoodS m i s) (hm : m ≤ 12) : ∀ x ∈ partsOf s, ∃ n : Nat, x = (n : Int) ∧ n < 100 := fun x hx => by
  have h1 := h.takes
  have h2 := h.ends
  have h3 := h.waits
  have h4 := h.stays
  have h5 := h.tries
  refine ⟨x.toNat, ?_⟩
  simp only [partsOf, List.mem_cons, List.not_mem_nil, or_false] at hx
  rcases hx with rfl | rfl | rfl | rfl | rfl <;> omega
theorem wants_words {m i : Nat} {s : Svc} (h : GoodS m i s) (hm : m ≤ 12) : ∀ w ∈ s.wants.map (fun (n : Nat) => numI (n : Int)), w.length ≤ 2 ∧ ∀ c ∈ tl w, 48 ≤ c ∧ c ≤ 57 := fun w hw => by
  obtain ⟨n, hn, rfl⟩ := List.mem_map.mp hw
  have := (h.below n hn).1
  exact ⟨numI_len (by omega), fun c hc => numI_dig hc⟩
theorem wantsW_ok {m i : Nat} {s : Svc} (h : GoodS m i s) (hm : m ≤ 12) : (wantsW s).length ≤ 100 ∧ ∀ c ∈ tl (wantsW s), c = 45 ∨ c = 44 ∨ (48 ≤ c ∧ c ≤ 57) := by
  unfold wantsW
  by_cases e : s.wants = []
  · rw [if_pos e]
    exact ⟨by decide +kernel, by decide +kernel⟩
  · rw [if_neg e]
    have hw := wants_words h hm
    refine ⟨?_, fun c hc => ?_⟩
    · have h1 := join_len (y := commaS) (b := 2) fun p hp => (hw p hp).1
      rw [List.length_map] at h1
      have h2 := h.few
      have h3 : commaS.length = 1 := by decide +kernel
      rw [h3] at h1
      omega
    · rcases join_mem hc with h1 | ⟨p, hp, hc⟩
      · have : ∀ c ∈ tl commaS, c = 44 := by decide +kernel
        exact .inr (.inl (this c h1))
      · exact .inr (.inr ((hw p hp).2 c hc))
theorem words_ok {m i : Nat} {s : Svc} (h : GoodS m i s) (hm : m ≤ 12) : ∀ w ∈ wordsOf s, w.length ≤ 100 ∧ ∀ c ∈ tl w, c = 45 ∨ c = 44 ∨ (48 ≤ c ∧ c ≤ 57) := fun w hw => by
  rcases List.mem_cons.mp hw with rfl | hw
  · exact wantsW_ok h hm
  · obtain ⟨x, hx, rfl⟩ := List.mem_map.mp hw
    obtain ⟨n, rfl, hn⟩ := h.num hm x hx
    exact ⟨Nat.le_trans (numI_len hn) (by decide), fun c hc => .inr (.inr (numI_dig hc))⟩
theorem row_ok {m i : Nat} {s : Svc} (h : GoodS m i s) (hm : m ≤ 12) : (rowT s).length ≤ 700 ∧ ∀ c ∈ tl (rowT s), c = 32 ∨ c = 45 ∨ c = 44 ∨ (48 ≤ c ∧ c ≤ 57) := by
  have hw := words_ok h hm
  refine ⟨?_, fun c hc => ?_⟩
  · have h1 := join_len (y := blankS) (b := 100) fun p hp => (hw p hp).1
    have h3 : blankS.length = 1 := by decide +kernel
    rw [h3] at h1
    exact Nat.le_trans h1 (by show 6 * (100 + 1) ≤ 700; decide)
  · rcases join_mem hc with h1 | ⟨p, hp, hc⟩
    · have : ∀ c ∈ tl blankS, c = 32 := by decide +kernel
      exact .inl (this c h1)
    · exact .inr ((hw p hp).2 c hc)
theorem split_words {m i : Nat} {s : Svc} (h : GoodS m i s) (hm : m ≤ 12) : Txt.split (rowT s) blankS = wordsOf s :=
  TL.split_join (s := 32) (S := []) (by decide +kernel) (by decide +kernel) (by unfold wordsOf; exact List.cons_ne_nil _ _) fun w hw hc => by
    have := (words_ok h hm w hw).2 32 hc
    omega
theorem split_wants {m i : Nat} {s : Svc} (h : GoodS m i s) (hm : m ≤ 12) (hne : s.wants ≠ []) : Txt.split (Txt.join commaS (s.wants.map fun (n : Nat) => numI (n : Int))) commaS = s.wants.map fun (n : Nat) => numI (n : Int) :=
  TL.split_join (s := 44) (S := []) (by decide +kernel) (by decide +kernel) (fun e => hne (List.map_eq_nil_iff.mp e)) fun w hw hc => by
    have := (wants_words h hm w hw).2 44 hc
    omega
theorem rows_ok {p : Pl} (h : Sound p) : ∀ r ∈ p.map rowT, r.length ≤ 700 ∧ 10 ∉ tl r := fun r hr => by
  obtain ⟨s, hs, rfl⟩ := List.mem_map.mp hr
  obtain ⟨i, hi⟩ := List.mem_iff_getElem?.mp hs
  have := row_ok (h.svc i s hi) h.few
  exact ⟨this.1, fun hc => by have := this.2 10 hc; omega⟩
theorem split_text {p : Pl} (h : Sound p) : Txt.split (textOf p) lineS = p.map rowT :=
  TL.split_join (s := 10) (S := []) (by decide +kernel) (by decide +kernel) (fun e => by
    have h1 := h.one
    rw [List.map_eq_nil_iff.mp e] at h1
    exact absurd h1 (by decide)) fun w hw => (rows_ok h w hw).2
theorem text_len {p : Pl} (h : Sound p) : (textOf p).length ≤ 9000 := by
  have h1 := join_len (y := lineS) (b := 700) fun r hr => (rows_ok h r hr).1
  rw [List.length_map] at h1
  have h3 : lineS.length = 1 := by decide +kernel
  rw [h3] at h1
  have h2 := h.few
  unfold textOf
  omega
theorem dash_ne {m i : Nat} {s : Svc} (h : GoodS m i s) (hm : m ≤ 12) (hne : s.wants ≠ []) : Txt.join commaS (s.wants.map fun (n : Nat) => numI (n : Int)) ≠ dashS := fun e => by
  have e2 := split_wants h hm hne
  rw [e] at e2
  have e3 : Txt.split dashS commaS = [dashS] := by decide +kernel
  rw [e3] at e2
  have hw := (wants_words h hm dashS (by rw [← e2]; exact List.mem_singleton.mpr rfl)).2 45 (by decide +kernel)
  omega
end Kr

local macro_rules | `(tactic| fail "krn") => `(tactic| first
  | ((with_reducible show Dl.ExS _ _ _ (List.set _ _ _)); conv => arg 4; simp only [List.set_cons_zero, List.set_cons_succ])
  | ((with_reducible show Dl.EvS _ _ (List.set _ _ _) _); conv => arg 3; simp only [List.set_cons_zero, List.set_cons_succ])
  | ((with_reducible show Dl.EvD _ _ (List.set _ _ _) _); conv => arg 3; simp only [List.set_cons_zero, List.set_cons_succ])
  | ((with_reducible show Dl.EvT _ _ (List.set _ _ _) _); conv => arg 3; simp only [List.set_cons_zero, List.set_cons_succ])
  | ((with_reducible show Dl.EvDs _ _ (List.set _ _ _) _); conv => arg 3; simp only [List.set_cons_zero, List.set_cons_succ]))
local macro_rules | `(tactic| fail "krV") => `(tactic| first
  | with_reducible refine Dl.ev_pu rfl ?_
  | with_reducible refine Dl.ev_al rfl ?_)
local macro_rules | `(tactic| fail "krC") => `(tactic| first
  | with_reducible refine Dl.ev_int ?_
  | with_reducible refine Dl.ev_str ?_
  | with_reducible refine Dl.ev_bl ?_
  | with_reducible refine Dl.ev_non ?_
  | with_reducible refine Dl.ev_c (by assumption) ?_)
local macro_rules | `(tactic| fail "krS") => `(tactic| first
  | ((with_reducible apply Dl.ev_Dix); (exact rfl); (first | exact Dl.atI_nat' (i := 0) rfl | exact Dl.atI_nat' (i := 1) rfl))
  | ((with_reducible apply Dl.ev_Dlen); (exact rfl))
  | with_reducible refine Dl.ev_I0 ?_
  | with_reducible refine Dl.ev_I ?_
  | with_reducible refine Dl.ev_B0 ?_
  | with_reducible refine Dl.ev_neg ?_
  | with_reducible refine Dl.ev_eqX ?_
  | with_reducible refine Dl.ev_neX ?_
  | with_reducible refine Dl.ev_inX ?_
  | with_reducible refine Dl.ev_neNil ?_
  | with_reducible refine Dl.ev_eqNil ?_
  | with_reducible refine Dl.ev_eqD ?_
  | with_reducible refine Dl.ev_ltD ?_
  | with_reducible refine Dl.ev_neD ?_
  | with_reducible refine Dl.ev_isN ?_
  | with_reducible refine Dl.ev_notN ?_
  | with_reducible refine Dl.ev_ixL ?_
  | with_reducible refine Dl.ev_ixT ?_
  | with_reducible refine Dl.ev_ixB ?_
  | with_reducible refine Dl.ev_catA ?_
  | with_reducible refine Dl.ev_tup ?_
  | with_reducible refine Dl.ev_lst ?_
  | with_reducible refine Dl.ev_andV ?_
  | with_reducible refine Dl.ev_orV ?_
  | with_reducible refine Dl.ev_notV ?_
  | with_reducible refine Dl.ev_if ?_
  | with_reducible refine Dl.ev_chain ?_
  | with_reducible refine Dl.ev_len ?_
  | with_reducible refine Dl.ev_list ?_
  | with_reducible refine Dl.ev_tuple ?_
  | with_reducible refine Dl.ev_sortedSet ?_
  | with_reducible refine Dl.ev_sorted ?_
  | with_reducible refine Dl.ev_max ?_
  | with_reducible refine Dl.ev_min ?_
  | with_reducible refine Dl.ev_sum ?_
  | with_reducible refine Dl.ev_all ?_
  | with_reducible refine Dl.ev_abs ?_
  | with_reducible refine Dl.ev_strI ?_
  | with_reducible refine Dl.ev_intB ?_
  | with_reducible refine Dl.ev_intB2 ?_
  | ((with_reducible apply Dl.ev_off); (exact rfl))
  | with_reducible refine Dl.ev_isi Dl.good_int (fun _ => Dl.isi_int) ?_
  | with_reducible refine Dl.ev_isi Dl.good_bool (fun _ => Dl.isi_bool) ?_
  | with_reducible refine Dl.ev_isi Dl.good_str (fun _ => Dl.isi_str) ?_
  | with_reducible refine Dl.ev_isi Dl.good_list (fun _ => Dl.isi_list) ?_
  | with_reducible refine Dl.ev_isi Dl.good_tuple (fun _ => Dl.isi_tup) ?_
  | with_reducible refine Dl.ev_listRg1 ?_
  | with_reducible refine Dl.ev_joinS ?_
  | with_reducible refine Dl.ev_splitS ?_
  | with_reducible refine Dl.ev_ixS ?_
  | with_reducible refine Dl.ev_inSg ?_
  | with_reducible refine Dl.ev_notInSg ?_
  | with_reducible refine Dl.ev_intS ?_
  | with_reducible refine Dl.ev_lenS ?_
  | with_reducible refine Dl.ev_rep ?_
  | with_reducible refine Dl.ev_cat ?_
  | with_reducible refine Dl.ev_slL ?_
  | with_reducible refine Dl.ev_catS ?_
  | with_reducible refine Dl.ev_revL ?_
  | with_reducible refine Dl.ev_rep01 ?_
  | with_reducible refine Dl.ev_slS ?_
  | with_reducible refine Dl.ev_addS ?_
  | with_reducible refine Dl.ev_slT ?_
  | with_reducible refine Dl.ev_dnew ?_
  | with_reducible refine Dl.ev_dnotin ?_
  | ((with_reducible refine Dl.ev_append ?_ ?_); rotate_left; (intro R hR; cases hR; exact ⟨_, rfl⟩); refine ⟨_, rfl, ?_⟩))
local macro_rules | `(tactic| fail "krX") => `(tactic| first
  | (with_reducible refine Dl.xs_Dset ?_)
  | (with_reducible refine Dl.xs_seq ?_; try dsimp only)
  | with_reducible refine Dl.xs_retN ?_
  | with_reducible refine Dl.xs_dropX ?_
  | with_reducible refine Dl.xs_drop ?_
  | with_reducible refine Dl.xs_raiseX ?_
  | with_reducible refine Dl.xs_raise0 ?_
  | with_reducible refine Dl.xs_asg ?_
  | with_reducible refine Dl.xs_if ?_
  | with_reducible refine Dl.xs_next ?_
  | with_reducible refine Dl.xs_break ?_
  | with_reducible refine Dl.xs_dput ?_
  | with_reducible refine Dl.xs_setL ?_)
local macro_rules | `(tactic| fail "krT") => `(tactic| first
  | with_reducible refine Dl.et_B ?_
  | with_reducible refine Dl.et_test ?_
  | with_reducible refine Dl.et_and ?_
  | with_reducible refine Dl.et_or ?_
  | with_reducible refine Dl.et_not ?_
  | with_reducible refine Dl.et_yes ?_)
local macro_rules | `(tactic| fail "krR2") => `(tactic| first
  | (refine ⟨rfl, _, rfl, (by decide), (by decide), ?_⟩; show ∀ x : Nat, (x : Int) < _ → _)
  | with_reducible refine Dl.eo_none ?_
  | with_reducible refine Dl.eo_some ?_
  | (refine ⟨show List.length _ ≤ 100000 from Nat.le_of_ble_eq_true rfl, ?_⟩)
  | (refine ⟨Nat.le_of_ble_eq_true rfl, _, (show Dl.asn _ _ _ _ from by first | exact rfl | exact ⟨_, rfl, rfl⟩), ?_⟩)
  | (refine ⟨_, _, _, rfl, rfl, rfl, ?_⟩)
  | (refine ⟨_, _, rfl, rfl, ?_⟩)
  | (refine ⟨_, rfl, ?_⟩)
  | (refine Or.inl ⟨_, _, rfl, rfl, ?_⟩)
  | (refine Or.inr (Or.inl ⟨_, _, rfl, rfl, ?_⟩))
  | (refine Or.inl ⟨_, _, rfl, Or.inl (Dl.den_al rfl), ?_⟩)
  | (refine Or.inl ⟨_, _, rfl, Or.inl Dl.den_pu, ?_⟩)
  | (refine Or.inl ⟨_, _, rfl, Or.inr Dl.den_pu, ?_⟩)
  | (refine Or.inl ⟨_, _, rfl, Or.inl Dl.den_ow, ?_⟩)
  | (refine Or.inr (Or.inl ⟨_, _, rfl, Or.inl (Dl.den_al rfl), ?_⟩))
  | (refine Or.inr (Or.inl ⟨_, _, rfl, Or.inl Dl.den_pu, ?_⟩))
  | (refine Or.inr (Or.inl ⟨_, _, rfl, Or.inr Dl.den_pu, ?_⟩))
  | (refine Or.inr (Or.inl ⟨_, _, rfl, Or.inl Dl.den_ow, ?_⟩))
  | (refine Or.inr (Or.inr ⟨_, _, rfl, rfl, rfl, ?_⟩))
  | (refine ⟨_, Dl.den_pu, ?_⟩)
  | (refine ⟨_, Dl.frz_pu, ?_⟩)
  | (refine ⟨_, Dl.frz_ow, ?_⟩)
  | (refine ⟨_, Or.inl Dl.den_pu, ?_⟩)
  | (refine ⟨_, Or.inr Dl.den_pu, ?_⟩)
  | (refine ⟨_, Or.inl (Dl.den_al rfl), ?_⟩)
  | (refine ⟨_, Or.inl Dl.den_ow, ?_⟩)
  | (refine ⟨_, Dl.den_ow, ?_⟩)
  | (refine ⟨_, Dl.den_al rfl, ?_⟩)
  | (refine ⟨_, _, Dl.den_ow, Dl.den_ow, ?_⟩)
  | (refine ⟨_, _, Dl.den_al rfl, Dl.den_ow, ?_⟩)
  | (refine ⟨_, _, Dl.den_ow, Dl.den_al rfl, ?_⟩)
  | (refine ⟨_, _, Dl.den_al rfl, Dl.den_al rfl, ?_⟩)
  | (refine ⟨_, _, Dl.den_pu, Dl.den_pu, ?_⟩))
local macro_rules | `(tactic| fail "krR") => `(tactic| first
  | ((with_reducible show @ite _ _ _ _ _); first | refine Dl.ifT rfl ?_ | refine Dl.ifF rfl ?_)
  | ((fail_if_success (with_reducible show @ite _ _ _ _ _)); fail "krR2"))
local macro_rules | `(tactic| fail "kre1") => `(tactic| first
  | fail "krn"
  | ((with_reducible show Dl.EvS _ (L2.tVar _) _ _); fail "krV")
  | ((with_reducible show Dl.EvS _ (L2.tC _) _ _); fail "krC")
  | ((with_reducible show Dl.EvS _ _ _ _); fail "krS")
  | ((with_reducible show Dl.ExS _ _ _ _); fail "krX")
  | ((with_reducible show Dl.EvT _ _ _ _); fail "krT")
  | ((with_reducible show Dl.EvD _ _ _ _); with_reducible refine Dl.ed_of ?_)
  | ((with_reducible show Dl.EvDs _ _ _ _); first | with_reducible refine Dl.eds_cons ?_ | with_reducible refine Dl.eds_nil ?_)
  | ((with_reducible show Dl.EvA _ _ _ _); first | with_reducible refine Dl.ea_cons ?_ | with_reducible refine Dl.ea_nil ?_)
  | fail "krR")
local macro_rules | `(tactic| fail "kr1") => `(tactic| first | with_reducible refine Dl.xs_ret ?_ | fail "kre1")
local macro_rules | `(tactic| fail "krE") => `(tactic| repeat fail "kre1")
local macro_rules | `(tactic| fail "kr") => `(tactic| repeat fail "kr1")
local macro_rules | `(tactic| fail "krK") => `(tactic| dsimp only [L2.cxOf])
local macro_rules | `(tactic| fail "krA") => `(tactic| (refine ⟨Nat.le_of_ble_eq_true rfl, _, (by first | exact rfl | exact ⟨_, rfl, rfl⟩), ?_⟩; first | (show Dl.ExS _ _ _ _; conv => arg 4; simp only [List.set_cons_zero, List.set_cons_succ]) | skip))
local macro_rules | `(tactic| fail "kr den") => `(tactic| first | exact Dl.den_pu | exact Dl.den_ow | exact Dl.den_al rfl)
namespace Kr
open PySem PySem.Spec PyProof.Rows L2 Dl
open Evl (Ex)
def betw : PyData → Int → Int → Bool
  | .int i, lo, hi => decide (lo ≤ i) && decide (i ≤ hi)
  | _, _, _ => false
theorem filter_no {α : Type} (xs : List α) : xs.filter (fun _ => false) = [] := by induction xs with | nil => rfl | cons x r ih => rw [List.filter_cons, ih]; rfl
theorem shaped_nilL : SeqAt.shaped (.list []) = true := by decide +kernel
theorem betw_yes {i lo hi : Int} (h : lo ≤ i) (h2 : i ≤ hi) : betw (.int i) lo hi = true := by simp [betw, h, h2]
def boundsD : PyData := .tuple [.tuple [.int 1, .int 20], .tuple [.int 1, .int 20], .tuple [.int 1, .int 20], .tuple [.int 1, .int 50], .tuple [.int 1, .int 9]]
section
variable {P : Program} {w : World} {K : PySem.W.Frag} {mg : Str → Option Value} {base : Heap}
def pBetween (ds : List PyData) : Prop := ∃ x lo hi, ds = [x, .int lo, .int hi]
def tBetween (ds : List PyData) (r : Rt) : Prop := ∀ x lo hi, ds = [x, .int lo, .int hi] → r = .d (.bool (betw x lo hi))
theorem ok_is_between (D : Df K mg "is_between" s_is_between ["part", "low", "high"]) (B : Bn mg) : Cal P w K mg base 1 "is_between" (spP K 3 pBetween tBetween) := by
  have nd := sc_is_between.nd
  refine calP D sc_is_between rfl fun f cdv A outer s H E hr => ⟨_, (pss_one (ps_ret (pe_and (pe_callB (Kk.call_isi (K := K)) (by rfl) B.isinstance (by decide +kernel) (pa_cons (pv 0) (pa_cons (pe_bltn (v := .ty "int") (u := .type "int") (by rfl) B.int (by decide +kernel) rfl) pa_nil))) (pe_and (pe_not (pe_callB (Kk.call_isi (K := K)) (by rfl) B.isinstance (by decide +kernel) (pa_cons (pv 0) (pa_cons (pe_bltn (v := .ty "bool") (u := .type "bool") (by rfl) B.bool (by decide +kernel) rfl) pa_nil)))) (pe_one (pe_chain op_le op_le (pv 1) (pv 0) (pv 2))))))), fun ds hn hp => ?_⟩
  obtain ⟨x, lo, hi, rfl⟩ := hp
  show ExS K _ _ [.pu x, .pu (.int lo), .pu (.int hi)]
  fail "kr"
  cases x with
  | int i =>
    fail "kr"
    refine ifB (fun h1 => ?_) (fun h1 => ?_)
    · fail "kr"
      exact rt_d fun x lo hi e => by cases e; simp [betw, h1]
    · exact rt_d fun x lo hi e => by cases e; simp [betw, h1]
  | _ => fail "kr"; exact rt_d fun x lo hi e => by cases e; rfl
def pSvc (ds : List PyData) : Prop := ∃ (s : Svc) (m i : Nat), ds = [svcD s, .int (m : Int), .int (i : Int)] ∧ GoodS m i s ∧ m ≤ 12
def tTrue (_ : List PyData) (r : Rt) : Prop := r = .d (.bool true)
theorem ok_is_service (D : Df K mg "is_service" s_is_service ["service", "many", "number"]) (B : Bn mg) (c_is_between : Cal P w K mg base 1 "is_between" (spP K 3 pBetween tBetween)) (hB : Cst K mg "BOUNDS" boundsD) :
    Cal P w K mg base 2 "is_service" (spP K 3 pSvc tTrue) := by
  have nd := sc_is_service.nd
  obtain ⟨vB, uB, hmB, rB, dB⟩ := hB.ex
  have g_BOUNDS : ∃ u, mg "BOUNDS" = some u ∧ RelV vB u := ⟨uB, hmB, rB⟩
  refine calP D sc_is_service rfl fun f cdv A outer st H E hr => ⟨_, (pss_cons (ps_if (PW.pt (pw_or (pt_not (pt_val (pe_callB (Kk.call_isi (K := K)) (by rfl) B.isinstance (by decide +kernel) (pa_cons (pv 0) (pa_cons (pe_bltn (v := .ty "tuple") (u := .type "tuple") (by rfl) B.tuple (by decide +kernel) rfl) pa_nil))))) (pw_or (pt_cmpR op_ne (pe_callB (Kk.call_len_seq (K := K)) (by rfl) B.len (by decide +kernel) (pa_cons (pv 0) pa_nil)) pe_int (nomark _)) (pw_or1 (pt_not (pt_val (pe_callB (Kk.call_isi (K := K)) (by rfl) B.isinstance (by decide +kernel) (pa_cons (pe_ix (Kk.ix_tup (K := K)) (pv 0) pe_int (fun _ _ => rfl)) (pa_cons (pe_bltn (v := .ty "tuple") (u := .type "tuple") (by rfl) B.tuple (by decide +kernel) rfl) pa_nil))))))))) (pss_one (ps_ret pe_bl)) pss_nil)
      (pss_cons (ps_set (i := 3) nd rfl (Or.inl rfl) (pe_ix (Kk.ix_tup (K := K)) (pv 0) pe_int (fun _ _ => rfl)))
      (pss_cons (ps_if (pt_cmpR (Kk.op_neD (K := K) hr.units) (pe_lc (own := [("one", 4)]) rfl nd (Kk.pi_tup (K := K) (pv 3)) (blkOk_by (by kernel_rfl)) (fun _ _ _ _ _ => (pg_name (i := 4) nd rfl (by first | exact Or.inl rfl | exact Or.inr rfl))) (fun _ _ _ _ _ => (pts_one (PW.pt (pw_or (pt_not (pt_val (Dl.pe_c c_is_between hr (pa_cons (pv 4) (pa_cons pe_int (pa_cons (pe_op op_sub (pv 1) pe_int) pa_nil)))))) (pw_or1 (pt_cmpR op_eq (pv 4) (pv 2) (nomark _))))))) (fun _ _ _ _ _ => (pv 4))) (pe_lst pa_nil) (nomark _)) (pss_one (ps_ret pe_bl)) pss_nil)
      (pss_cons (ps_if (pt_cmpR (Kk.op_neD (K := K) hr.units) (pe_callTy (Kk.call_list_of (K := K)) (by rfl) B.list (by decide +kernel) (pa_cons (pv 3) pa_nil)) (pe_callB (Kk.cr_sortedSet (w := w) rfl) (by rfl) B.sorted (by decide +kernel) (pa_cons (pe_callTy (Kk.cr_setI (K := K) (w := w) rfl) (by rfl) B.set_ (by decide +kernel) (pa_cons (pv 3) pa_nil)) pa_nil)) (nomark _)) (pss_one (ps_ret pe_bl)) pss_nil)
      (pss_one (ps_ret (pe_cmpR (Kk.op_eqD (K := K) hr.units) (pe_lc (own := [("k", 5)]) rfl nd (pi_range1 (by rfl) B.range (pa_cons pe_int pa_nil)) (blkOk_by (by kernel_rfl)) (fun _ _ _ _ _ => (pg_name (i := 5) nd rfl (by first | exact Or.inl rfl | exact Or.inr rfl))) (fun _ _ _ _ _ => (pts_one (pt_not (pt_val (Dl.pe_c c_is_between hr (pa_cons (pe_ix (Kk.ix_tup (K := K)) (pv 0) (pe_op op_add pe_int (pv 5)) (fun _ _ => rfl)) (pa_cons (pe_ix (Kk.ix_tup (K := K)) (pe_ix (Kk.ix_tup (K := K)) (C8.pe_gc (by rfl) g_BOUNDS) (pv 5) (fun _ _ => rfl)) pe_int (fun _ _ => rfl)) (pa_cons (pe_ix (Kk.ix_tup (K := K)) (pe_ix (Kk.ix_tup (K := K)) (C8.pe_gc (by rfl) g_BOUNDS) (pv 5) (fun _ _ => rfl)) pe_int (fun _ _ => rfl)) pa_nil)))))))) (fun _ _ _ _ _ => (pv 5))) (pe_lst pa_nil) (nomark _)))))))), fun ds hn hp => ?_⟩
  obtain ⟨s, m, i, rfl, g, hm⟩ := hp
  show ExS K _ _ [.pu (svcD s), .pu (.int m), .pu (.int i), .non, .non, .non]
  fail "kr"
  have hs : s.wants.Pairwise (· < ·) := g.rise
  have hlen := g.few
  refine ev_fT (g := PyData.int) (fun _ => false) PyData.int ?_
  fail "kr"
  refine ⟨wip1 rfl junk_non, Nat.le_of_ble_eq_true rfl, by rw [iz_len]; omega, fun a ha => ?_, ?_⟩
  · unfold Turn1C
    simp only [List.set_cons_zero, List.set_cons_succ]
    obtain ⟨x, rfl, hx⟩ := iz_ex ha
    have hb := g.below x hx
    fail "kr"
    refine ev_call ?_
    fail "kr"
    refine ⟨rfl, ⟨_, _, _, rfl⟩, fun r hr => ?_⟩
    rw [hr _ _ _ rfl]
    fail "kr"
    rw [betw_yes (by omega) (by omega)]
    fail "kr"
    have : decide ((x : Int) = (i : Int)) = false := decide_eq_false fun e => hb.2 (by omega)
    rw [this]
    exact ⟨rfl, rfl, fun z => nomatch z⟩
  fail "kr"
  rw [filter_no]
  refine ⟨shaped_nilL, ?_⟩
  fail "kr"
  refine ⟨by rw [iz_len]; omega, fun ns' h1 h2 => ?_⟩
  have e : ns' = iz s.wants := rising_unique h1 (iz_rise hs) h2
  subst e
  fail "kr"
  refine ⟨shaped_ints _, shaped_ints _, ?_⟩
  fail "kr"
  rw [eqvL_ints, decide_eq_true rfl]
  fail "kr"
  refine ev_fR (fun _ => false) (fun k => .int (k : Int)) ?_
  fail "kr"
  refine ⟨wip1 rfl junk_non, Nat.le_of_ble_eq_true rfl, Nat.le_of_ble_eq_true rfl, fun a ha => ?_, ?_⟩
  · unfold Turn1C
    simp only [List.set_cons_zero, List.set_cons_succ]
    fail "kr"
    refine ev_call ?_
    fail "kr"
    have ht := g.takes
    have he := g.ends
    have hw := g.waits
    have hy := g.stays
    have hz := g.tries
    have ha5 : a < 5 := ha
    have h5 : a = 0 ∨ a = 1 ∨ a = 2 ∨ a = 3 ∨ a = 4 := by omega
    rcases h5 with rfl | rfl | rfl | rfl | rfl <;>
    · fail "kr"
      refine ⟨rfl, ⟨_, _, _, rfl⟩, fun r hr => ?_⟩
      have e : r = .d (.bool true) := (hr _ _ _ rfl).trans (congrArg (fun b => Rt.d (.bool b)) (by
        first
        | exact betw_yes ht.1 ht.2
        | exact betw_yes he.1 he.2
        | exact betw_yes hw.1 hw.2
        | exact betw_yes hy.1 hy.2
        | exact betw_yes hz.1 hz.2))
      rw [e]
      fail "kr"
      exact ⟨rfl, rfl, fun z => nomatch z⟩
  fail "kr"
  rw [filter_no]
  refine ⟨shaped_nilL, ?_⟩
  exact rt_d rfl
end
end Kr

namespace Kr
open PySem PySem.Spec PyProof.Rows L2 Dl
open Evl (Ex)
theorem nodup_lt : ∀ (n : Nat) (ks : List Int), ks.Nodup → (∀ k ∈ ks, 0 ≤ k ∧ k < n) → ks.length ≤ n
  | 0, [], _, _ => Nat.le_refl _
  | 0, k :: _, _, h => absurd (h k (List.mem_cons_self ..)) (by omega)
  | n + 1, ks, hd, h => by
    have := nodup_lt n (ks.erase (n : Int)) (hd.erase _) fun k hk => by
      obtain ⟨a, b⟩ := (hd.mem_erase_iff).mp hk
      have := h k b
      omega
    have := List.length_erase (a := (n : Int)) (l := ks)
    split at this <;> omega
theorem lookI_none {kvs : List (Int × PyData)} {k : Int} (h : lookI kvs k = none) : k ∉ kvs.map (·.1) := by
  intro hm
  obtain ⟨kv, h1, h2⟩ := List.mem_map.mp hm
  unfold lookI at h
  rw [Option.map_eq_none_iff, List.find?_eq_none] at h
  exact h kv h1 (by simp [h2])
theorem putI_new {kvs : List (Int × PyData)} {k : Int} {d : PyData} (h : k ∉ kvs.map (·.1)) : putI kvs k d = kvs ++ [(k, d)] := by
  unfold putI
  rw [if_neg]
  intro hh
  rw [List.any_eq_true] at hh
  obtain ⟨kv, h1, h2⟩ := hh
  exact h (List.mem_map.mpr ⟨kv, h1, of_decide_eq_true h2⟩)
structure Met (n : Nat) (kvs : List (Int × PyData)) : Prop where
  nd : (kvs.map (·.1)).Nodup
  lt : ∀ k ∈ kvs.map (·.1), 0 ≤ k ∧ k < (n : Int)
theorem Met.len {n : Nat} {kvs : List (Int × PyData)} (h : Met n kvs) : kvs.length ≤ n := by
  have := nodup_lt n _ h.nd h.lt
  rwa [List.length_map] at this
theorem Met.put {n k : Nat} {kvs : List (Int × PyData)} {d : PyData} (h : Met n kvs) (hk : lookI kvs k = none) (hl : k < n) : putI kvs k d = kvs ++ [((k : Int), d)] ∧ Met n (kvs ++ [((k : Int), d)]) := by
  have hn := lookI_none hk
  refine ⟨putI_new hn, ?_, fun j hj => ?_⟩
  · rw [List.map_append, List.nodup_append]
    refine ⟨h.nd, List.nodup_cons.mpr ⟨by simp, List.nodup_nil⟩, fun a ha b hb => ?_⟩
    rw [List.mem_singleton.mp hb]
    intro e
    exact hn (show (k : Int) ∈ _ from (show a = (k : Int) from e) ▸ ha)
  · rw [List.map_append] at hj
    rcases List.mem_append.mp hj with hj | hj
    · exact h.lt j hj
    · rw [List.mem_singleton.mp hj]
      show 0 ≤ (k : Int) ∧ (k : Int) < n
      omega
def rowD (r : List Nat) : PyData := .list ((iz r).map PyData.int)
def rowsD (rs : List (List Nat)) : List PyData := rs.map rowD
theorem okD_rows (rs : List (List Nat)) : okD 2 (.list (rowsD rs)) := okD_list fun x hx => by
  obtain ⟨r, _, e⟩ := List.mem_map.mp hx
  rw [← e]
  exact okD_ints _
theorem rowsD_len (rs : List (List Nat)) : (rowsD rs).length = rs.length := List.length_map _
theorem wants_at {p : Pl} {i x k : Nat} (hx : (wantsOf p i)[k]? = some x) : x ∈ wantsOf p i := List.mem_of_getElem? hx
theorem atI_plan {p : Pl} {i : Nat} (h : i < p.length) : ∃ s, p[i]? = some s ∧ atI (p.map svcD) (i : Int) = some (svcD s) := by
  refine ⟨p[i], List.getElem?_eq_getElem h, atI_nat' ?_⟩
  rw [List.getElem?_map, List.getElem?_eq_getElem h]
  rfl
theorem atI_last {r : List Nat} {x : Nat} : atI ((iz (r ++ [x])).map PyData.int) (-1) = some (.int x) := by
  rw [iz_app, List.map_append]
  have e : ((iz r).map PyData.int ++ (iz [x]).map PyData.int).length = r.length + 1 := by simp [iz]
  unfold atI ixN
  rw [e, if_neg (by omega), if_pos (by omega)]
  show (List.map PyData.int (iz r) ++ [PyData.int (x : Int)])[_]? = _
  rw [List.getElem?_append_right (by simp [iz]; omega)]
  have : (-1 + ((r.length + 1 : Nat) : Int)).toNat - (List.map PyData.int (iz r)).length = 0 := by simp [iz]; omega
  rw [this]
  rfl
theorem iz_at {ns : List Nat} {j : Nat} {y : PyData} (h : ((iz ns).map PyData.int)[j]? = some y) : ∃ z : Nat, y = .int (z : Int) ∧ z ∈ ns := by
  obtain ⟨i, hi, e⟩ := List.mem_map.mp (List.mem_of_getElem? h)
  obtain ⟨z, rfl, hz⟩ := iz_ex hi
  exact ⟨z, e.symm, hz⟩
/-- rows on the way: behind each of them stands one of lower rank -/
def Way (p : Pl) (rank : Nat → Nat) (b m k : Nat) (r : List Nat) : Prop := ∃ (r0 : List Nat) (x : Nat), r = r0 ++ [x] ∧ x < p.length ∧ rank x < m ∧ rank x ≤ rank b ∧ r0.length ≤ k
theorem Way.up {p : Pl} {rank : Nat → Nat} {b m k k2 : Nat} {r : List Nat} (h : Way p rank b m k r) (l : k ≤ k2) : Way p rank b m k2 r := by
  obtain ⟨r0, x, a, b, c, d, e⟩ := h
  exact ⟨r0, x, a, b, c, d, Nat.le_trans e l⟩
section
variable {P : Program} {w : World} {K : PySem.W.Frag} {mg : Str → Option Value} {base : Heap}
def pRing (ds : List PyData) : Prop := ∃ (p : Pl) (b : Nat), ds = [planD p, .int (b : Int)] ∧ Good p ∧ b < p.length
def tNone (_ : List PyData) (r : Rt) : Prop := r = .d .none
theorem ok_ring_from (D : Df K mg "ring_from" s_ring_from ["plan", "begin"]) (B : Bn mg) : Cal P w K mg base 1 "ring_from" (spP K 2 pRing tNone) := by
  have nd := sc_ring_from.nd
  refine calP D sc_ring_from rfl fun f cdv A outer st H E hr => ⟨_, (pss_cons (ps_set (i := 2) nd rfl (Or.inl rfl) (pe_lst (pa_cons (pe_lst (pa_cons (pv 1) pa_nil)) pa_nil)))
      (pss_cons (ps_set (i := 3) nd rfl (Or.inl rfl) pe_dnewK)
      (pss_cons (ps_while PassesOwn.never (pt_cmpR (Kk.op_neD (K := K) hr.units) (pv 2) (pe_lst pa_nil) (nomark _)) (pss_cons (ps_set (i := 4) nd rfl (Or.inl rfl) (pe_lst pa_nil))
      (pss_cons (ps_for PassesOwn.never rfl (Kk.pi_list (K := K) (pv 2)) (pg_name (i := 5) nd rfl (Or.inl rfl)) (pss_one (ps_for PassesOwn.never rfl (Kk.pi_tup (K := K) (pe_ix (Kk.ix_tup (K := K)) (pe_ix (Kk.ix_tup (K := K)) (pv 0) (pe_ix (Kk.ix_list (K := K)) (pv 5) (pe_un un_neg pe_int) (fun _ _ => rfl)) (fun _ _ => rfl)) pe_int (fun _ _ => rfl))) (pg_name (i := 6) nd rfl (Or.inl rfl)) (pss_cons (ps_if (pt_cmpR op_eq (pv 6) (pv 1) (nomark _)) (pss_one (ps_ret (pv 5))) pss_nil)
      (pss_one (ps_if (pt_cmp (pc_dnotin (Kk.hu hr) (pv 6) (pv 3))) (pss_cons (ps_dput (Kk.hu hr) (pv 3) (pv 6) pe_bl rfl)
      (pss_one (ps_expr (Kk.pe_bm (K := K) PySem.F.plainAttrs_list PySem.F.slot_list_append PySem.F.type_list_append mt_append (pv 4) (pa_cons (pe_op (Kk.op_catS (K := K)) (pv 5) (pe_lst (pa_cons (pv 6) pa_nil))) pa_nil))))) pss_nil))))))
      (pss_one (ps_set (i := 2) nd rfl (Or.inl rfl) (pv 4))))))
      (pss_one (ps_ret pe_non))))), fun ds hn hp => ?_⟩
  obtain ⟨p, b, rfl, hg, hb⟩ := hp
  obtain ⟨rank, hrank⟩ := hg.free
  have hlen := hg.sound.few
  show ExS K _ _ [.pu (planD p), .pu (.int b), .non, .non, .non, .non, .non]
  fail "kr"
  refine xs_while (fun m δ' => ∃ rs kvs x5 x6, δ' = [.pu (planD p), .pu (.int b), .ow (RL K (rowsD rs)), .ow (RDk K kvs), .non, x5, x6] ∧ (∀ r ∈ rs, Way p rank b m kvs.length r) ∧ Met p.length kvs ∧ rs.length ≤ kvs.length + 1) (rank b + 1) ⟨[[b]], [], .non, .non, rfl, ?_, ⟨List.nodup_nil, fun k hk => nomatch hk⟩, Nat.le_refl _⟩ ?_
  · intro r hr
    rw [List.mem_singleton.mp hr]
    exact ⟨[], b, rfl, hb, Nat.lt_succ_self _, Nat.le_refl _, Nat.zero_le _⟩
  · rintro m _ ⟨rs, kvs, x5, x6, rfl, hway, hmet, hrs⟩
    fail "kr"
    refine ⟨(okD_rows rs).shaped (by decide), ?_⟩
    cases rs with
    | nil => 
      fail "kr"
      exact rt_d rfl
    | cons ra rs =>
      have hm : 0 < m := by
        obtain ⟨_, _, _, _, h, _⟩ := hway ra (List.mem_cons_self ..)
        omega
      fail "kr"
      refine xs_frz (j := 2) rfl ?_
      generalize ra :: rs = rows at hway hrs
      have hk12 := hmet.len
      fail "kr"
      refine xs_forL (ed_of (ev_pu rfl ⟨_, frz_pu, _, rfl, fun _ δ' => ∃ fur kvs2 x5 x6, δ' = [.pu (planD p), .pu (.int b), .pu (.list (rowsD rows)), .ow (RDk K kvs2), .ow (RL K (rowsD fur)), x5, x6] ∧ kvs.length ≤ kvs2.length ∧ (∀ r ∈ fur, Way p rank b (m - 1) kvs2.length r) ∧ Met p.length kvs2 ∧ fur.length ≤ kvs2.length, ⟨[], kvs, x5, x6, rfl, Nat.le_refl _, fun _ z => (nomatch z), hmet, Nat.zero_le _⟩, fun i y δ' hy => ?_, fun δ' => ?_⟩))
      · rintro ⟨fur, kvs2, x5, x6, rfl, hkk, hfur, hmet2, hfl⟩
        rw [rowsD, List.getElem?_map] at hy
        cases hr2 : rows[i]? with
        | none => rw [hr2] at hy; cases hy
        | some r =>
        rw [hr2] at hy
        cases hy
        obtain ⟨r0, x, rfl, hx, hxm, hxb, hr0⟩ := hway r (List.mem_of_getElem? hr2)
        obtain ⟨s, hs, hat⟩ := atI_plan hx
        refine turn1_name (Nat.le_of_ble_eq_true rfl) ?_
        fail "kr"
        refine xs_forT ?_
        fail "kr"
        refine ⟨_, _, _, den_pu, rfl, atI_last, _, _, _, rfl, rfl, hat, ?_⟩
        fail "kr"
        refine ⟨fun _ δ' => ∃ fur kvs2 x6, δ' = [.pu (planD p), .pu (.int b), .pu (.list (rowsD rows)), .ow (RDk K kvs2), .ow (RL K (rowsD fur)), .pu (rowD (r0 ++ [x])), x6] ∧ kvs.length ≤ kvs2.length ∧ (∀ r ∈ fur, Way p rank b (m - 1) kvs2.length r) ∧ Met p.length kvs2 ∧ fur.length ≤ kvs2.length, ⟨fur, kvs2, x6, rfl, hkk, hfur, hmet2, hfl⟩, fun j y δ' hy => ?_, fun δ' => ?_⟩
        · rintro ⟨fur, kvs2, x6, rfl, hkk, hfur, hmet2, hfl⟩
          obtain ⟨z, rfl, hz⟩ := iz_at hy
          have hzw : z ∈ wantsOf p x := by rw [wantsOf_some hs]; exact hz
          have hzl := hg.sound.wants_lt hzw
          have hzr := hrank x z hzw
          have h12 := hmet2.len
          refine turn1_name (Nat.le_of_ble_eq_true rfl) ?_
          fail "kr"
          rw [show decide ((z : Int) = (b : Int)) = false from decide_eq_false fun e => by
            have : z = b := by omega
            rw [this] at hzr
            omega]
          fail "kr"
          refine ifB (fun hn => ?_) (fun hn => ?_)
          · have hln : lookI kvs2 (z : Int) = none := by
              cases e : lookI kvs2 (z : Int) with
              | none => rfl
              | some _ => rw [e] at hn; cases hn
            obtain ⟨e1, e2⟩ := hmet2.put (d := .bool true) hln hzl
            fail "kr"
            refine ⟨by omega, ?_⟩
            rw [e1]
            fail "kr"
            refine ⟨_, _, den_pu, den_ow, ?_⟩
            have hl := hr0
            refine ⟨?_, ?_⟩
            · simp [iz]
              omega
            fail "kr"
            refine ⟨by rw [rowsD_len]; omega, ?_⟩
            fail "kr"
            refine ⟨fur ++ [r0 ++ [x] ++ [z]], _, .pu (.int (z : Int)), ?_, ?_, ?_, e2, ?_⟩
            · simp [rowsD, rowD, iz]
            · rw [List.length_append]
              omega
            · intro r hr
              rcases List.mem_append.mp hr with hr | hr
              · exact (hfur r hr).up (by rw [List.length_append]; omega)
              · rw [List.mem_singleton.mp hr]
                refine ⟨r0 ++ [x], z, rfl, hzl, by omega, by omega, ?_⟩
                rw [List.length_append, List.length_append]
                simp
                omega
            · rw [List.length_append, List.length_append]
              simp
              omega
          · fail "kr"
            exact ⟨fur, kvs2, _, rfl, hkk, hfur, hmet2, hfl⟩
        · rintro ⟨fur, kvs2, x6, rfl, hkk, hfur, hmet2, hfl⟩
          exact ⟨fur, kvs2, _, x6, rfl, hkk, hfur, hmet2, hfl⟩
      · rintro ⟨fur, kvs2, x5, x6, rfl, hkk, hfur, hmet2, hfl⟩
        fail "kr"
        exact ⟨m - 1, by omega, fur, kvs2, x5, x6, rfl, hfur, hmet2, by omega⟩
end
end Kr

namespace Kr
open PySem PySem.Spec PyProof.Rows L2 Dl
open Evl (Ex)
theorem tgl2 {n a b : Nat} {x y : PyData} (h : a < n) (h2 : b < n) : ∀ p ∈ [(a, x), (b, y)], p.1 < n := fun p hp => by
  rcases List.mem_cons.mp hp with rfl | hp
  · exact h
  · rw [List.mem_singleton.mp hp]
    exact h2
theorem planD_len (p : Pl) : (p.map svcD).length = p.length := List.length_map _
section
variable {P : Program} {w : World} {K : PySem.W.Frag} {mg : Str → Option Value} {base : Heap}
def pGood (ds : List PyData) : Prop := ∃ (p : Pl), ds = [planD p] ∧ Good p
def pRing2 (ds : List PyData) : Prop := ∃ (p : Pl) (b : Nat), ds = [planD p, .int (b : Int)] ∧ Good p ∧ b < p.length
theorem ok_first_ring (D : Df K mg "first_ring" s_first_ring ["plan"]) (B : Bn mg) (c_ring_from : Cal P w K mg base 1 "ring_from" (spP K 2 pRing tNone)) : Cal P w K mg base 2 "first_ring" (spP K 1 pGood tNone) := by
  have nd := sc_first_ring.nd
  refine calP D sc_first_ring rfl fun f cdv A outer st H E hr => ⟨_, (pss_cons (ps_set (i := 1) nd rfl (Or.inl rfl) pe_non)
      (pss_cons (ps_for PassesOwn.never rfl (pi_range1 (by rfl) B.range (pa_cons (pe_callB (Kk.call_len_seq (K := K)) (by rfl) B.len (by decide +kernel) (pa_cons (pv 0) pa_nil)) pa_nil)) (pg_name (i := 2) nd rfl (Or.inl rfl)) (pss_cons (ps_set (i := 3) nd rfl (Or.inl rfl) (Dl.pe_c c_ring_from hr (pa_cons (pv 0) (pa_cons (pv 2) pa_nil))))
      (pss_one (ps_if (PW.pt (pw_and (pt_cmp (pc_notN (pv 3))) (pw_and1 (PW.pt (pw_or (pt_cmp (pc_isN (pv 1))) (pw_or1 (pt_cmpR op_lt (pe_tup (pa_cons (pe_callB (Kk.call_len_seq (K := K)) (by rfl) B.len (by decide +kernel) (pa_cons (pv 3) pa_nil)) (pa_cons (pv 3) pa_nil))) (pe_tup (pa_cons (pe_callB (Kk.call_len_seq (K := K)) (by rfl) B.len (by decide +kernel) (pa_cons (pv 1) pa_nil)) (pa_cons (pv 1) pa_nil))) (nomark _)))))))) (pss_one (ps_set (i := 1) nd rfl (Or.inl rfl) (pv 3))) pss_nil))))
      (pss_one (ps_ret (pv 1))))), fun ds hn hp => ?_⟩
  obtain ⟨p, rfl, hg⟩ := hp
  have hlen := hg.sound.few
  show ExS K _ _ [.pu (planD p), .non, .non, .non]
  fail "kr"
  refine xs_forR1 ?_
  fail "kr"
  rw [planD_len]
  refine ⟨by omega, by omega, fun _ δ' => ∃ x2 x3, δ' = [.pu (planD p), .pu .none, x2, x3], ⟨_, _, rfl⟩, fun i δ' hi => ?_, fun δ' => ?_⟩
  · rintro ⟨x2, x3, rfl⟩
    refine turn1_name (Nat.le_of_ble_eq_true rfl) ?_
    fail "kr"
    refine ev_call ?_
    fail "kr"
    refine ⟨rfl, ⟨p, i, rfl, hg, by omega⟩, fun r hr => ?_⟩
    cases (show r = .d .none from hr)
    fail "kr"
    exact ⟨_, _, rfl⟩
  · rintro ⟨x2, x3, rfl⟩
    fail "kr"
    exact rt_d rfl
theorem ok_need_services (D : Df K mg "need_services" s_need_services ["plan"]) (B : Bn mg) (hB : Cst K mg "MOST_SERVICES" (.int 12)) (c_is_service : Cal P w K mg base 2 "is_service" (spP K 3 pSvc tTrue)) : Cal P w K mg base 3 "need_services" (spP K 1 pGood tNone) := by
  have nd := sc_need_services.nd
  obtain ⟨vM, uM, hmM, rM, dM⟩ := hB.ex
  have g_MOST_SERVICES : ∃ u, mg "MOST_SERVICES" = some u ∧ RelV vM u := ⟨uM, hmM, rM⟩
  refine calP D sc_need_services rfl fun f cdv A outer st H E hr => ⟨_, (pss_cons (ps_if (PW.pt (pw_or (pt_not (pt_val (pe_callB (Kk.call_isi (K := K)) (by rfl) B.isinstance (by decide +kernel) (pa_cons (pv 0) (pa_cons (pe_bltn (v := .ty "tuple") (u := .type "tuple") (by rfl) B.tuple (by decide +kernel) rfl) pa_nil))))) (pw_or1 (pt_not (pt_chain op_le op_le pe_int (pe_callB (Kk.call_len_seq (K := K)) (by rfl) B.len (by decide +kernel) (pa_cons (pv 0) pa_nil)) (C8.pe_gc (by rfl) g_MOST_SERVICES)))))) (pss_one ps_never) pss_nil)
      (pss_one (ps_for PassesOwn.never rfl (Kk.pi_enumT (K := K) (by rfl) B.enumerate (pa_cons (pv 0) pa_nil)) (Kk.pg_tup (K := K) (n := 2) (by rfl) (pgs_cons (pg_name (i := 1) nd rfl (Or.inl rfl)) (pgs_cons (pg_name (i := 2) nd rfl (Or.inl rfl)) pgs_nil))) (pss_one (ps_if (pt_not (pt_val (Dl.pe_c c_is_service hr (pa_cons (pv 2) (pa_cons (pe_callB (Kk.call_len_seq (K := K)) (by rfl) B.len (by decide +kernel) (pa_cons (pv 0) pa_nil)) (pa_cons (pv 1) pa_nil)))))) (pss_one ps_never) pss_nil))))), fun ds hn hp => ?_⟩
  obtain ⟨p, rfl, hg⟩ := hp
  have hlen := hg.sound.few
  show ExS K _ _ [.pu (planD p), .non, .non]
  fail "kr"
  have h1 := hg.sound.one
  rw [planD_len, decide_eq_true (show (1 : Int) ≤ (p.length : Int) by omega)]
  fail "kr"
  rw [decide_eq_true (show (p.length : Int) ≤ 12 by omega)]
  fail "kr"
  refine xs_forET ?_
  fail "kr"
  refine ⟨fun _ δ' => ∃ x1 x2, δ' = [.pu (planD p), x1, x2], ⟨_, _, rfl⟩, fun i y δ' hy => ?_, fun δ' => ?_⟩
  · rintro ⟨x1, x2, rfl⟩
    rw [List.getElem?_map] at hy
    cases hs : p[i]? with
    | none => rw [hs] at hy; cases hy
    | some s =>
    rw [hs] at hy
    cases hy
    refine turn1 tg_tup2 ?_ ?_
    · exact tgl2 (Nat.le_of_ble_eq_true rfl) (Nat.le_of_ble_eq_true rfl)
    show ExS K _ _ [.pu (planD p), .pu (.int i), .pu (svcD s)]
    fail "kr"
    refine ev_call ?_
    fail "kr"
    rw [planD_len]
    refine ⟨rfl, ⟨s, p.length, i, rfl, hg.sound.svc i s hs, hlen⟩, fun r hr => ?_⟩
    cases (show r = .d (.bool true) from hr)
    fail "kr"
    exact ⟨_, _, rfl⟩
  · rintro ⟨x1, x2, rfl⟩
    fail "kr"
    rfl
theorem ok_need_plan (D : Df K mg "need_plan" s_need_plan ["plan"]) (B : Bn mg) (c_need_services : Cal P w K mg base 3 "need_services" (spP K 1 pGood tNone)) (c_first_ring : Cal P w K mg base 2 "first_ring" (spP K 1 pGood tNone)) : Cal P w K mg base 4 "need_plan" (spP K 1 pGood tNone) := by
  have nd := sc_need_plan.nd
  refine calP D sc_need_plan rfl fun f cdv A outer st H E hr => ⟨_, (pss_cons (ps_expr (Dl.pe_c c_need_services hr (pa_cons (pv 0) pa_nil)))
      (pss_cons (ps_set (i := 1) nd rfl (Or.inl rfl) (Dl.pe_c c_first_ring hr (pa_cons (pv 0) pa_nil)))
      (pss_one (ps_if (pt_cmp (pc_notN (pv 1))) (pss_one ps_never) pss_nil)))), fun ds hn hp => ?_⟩
  obtain ⟨p, rfl, hg⟩ := hp
  show ExS K _ _ [.pu (planD p), .non]
  fail "kr"
  refine ev_call ?_
  fail "kr"
  refine ⟨rfl, ⟨p, rfl, hg⟩, fun r hr => ?_⟩
  cases (show r = .d .none from hr)
  fail "kr"
  refine ev_call ?_
  fail "kr"
  refine ⟨rfl, ⟨p, rfl, hg⟩, fun r hr => ?_⟩
  cases (show r = .d .none from hr)
  fail "kr"
  rfl
end
end Kr

namespace Kr
open PySem PySem.Spec PyProof.Rows L2 Dl
open Evl (Ex)
section
variable {P : Program} {w : World} {K : PySem.W.Frag} {mg : Str → Option Value} {base : Heap}
/-! ### the laws' own: draws, likeness -/
def pDice (ds : List PyData) : Prop := ∃ (ns : List Int) (k : Int), ds = [.list (ns.map PyData.int), .int k] ∧ ns.length ≤ 900 ∧ 0 ≤ k
def tDice (_ : List PyData) (r : Rt) : Prop := ∃ xs : List Int, r = .l (xs.map PyData.int) ∧ DiceOk xs
theorem ok__law_dice (D : Df K mg "_law_dice" s__law_dice ["_law_script", "_law_k"]) (B : Bn mg) : Cal P w K mg base 1 "_law_dice" (spP K 2 pDice tDice) := by
  have nd := sc__law_dice.nd
  refine calP D sc__law_dice rfl fun f cdv A outer st H E hr => ⟨_, (pss_cons (ps_set (i := 2) nd rfl (Or.inl rfl) (pv 1))
      (pss_cons (ps_for PassesOwn.never rfl (Kk.pi_list (K := K) (pv 0)) (pg_name (i := 3) nd rfl (Or.inl rfl)) (pss_one (ps_set (i := 2) nd rfl (Or.inl rfl) (pe_op op_mod (pe_op op_add (pe_op op_mul (pv 2) pe_int) (pe_callB call_abs (by rfl) B.abs (by decide +kernel) (pa_cons (pv 3) pa_nil))) pe_int))))
      (pss_one (ps_ret (pe_op (Kk.op_catS (K := K)) (pe_lst (pa_cons (pv 2) (pa_cons pe_int pa_nil))) (pe_lc (own := [("_law_cell", 3)]) rfl nd (Kk.pi_list (K := K) (pv 0)) (blkOk_by (by kernel_rfl)) (fun _ _ _ _ _ => (pg_name (i := 3) nd rfl (by first | exact Or.inl rfl | exact Or.inr rfl))) (fun _ _ _ _ _ => (pts_one (pt_cmpR op_ge (pv 3) (pe_op op_pow pe_int pe_int) (nomark _)))) (fun _ _ _ _ _ => (pv 3)))))))), fun ds hn hp => ?_⟩
  obtain ⟨ns, k, rfl, hl, hk⟩ := hp
  show ExS K _ _ [.pu (.list (ns.map PyData.int)), .pu (.int k), .non, .non]
  fail "kr"
  refine xs_forL (ed_of (ev_pu rfl ⟨_, frz_pu, _, rfl, fun _ δ' => ∃ (g : Int) (x3 : Slot), δ' = [.pu (.list (ns.map PyData.int)), .pu (.int k), .pu (.int g), x3] ∧ Junk x3 ∧ 0 ≤ g, ⟨k, .non, rfl, junk_non, hk⟩, fun i y δ' hy => ?_, fun δ' => ?_⟩))
  · rintro ⟨g, x3, rfl, hj, hg⟩
    obtain ⟨z, hz, rfl⟩ := List.mem_map.mp (List.mem_of_getElem? hy)
    refine turn1_name (Nat.le_of_ble_eq_true rfl) ?_
    fail "kr"
    refine ⟨.inr (by omega), ?_⟩
    fail "kr"
    refine ⟨by decide, ?_⟩
    fail "kr"
    exact ⟨_, _, rfl, junk_pu, Int.emod_nonneg _ (by decide)⟩
  · rintro ⟨g, x3, rfl, hj, hg⟩
    fail "kr"
    refine ev_fL (g := PyData.int) (fun z => decide (1000000000000000000 ≤ z)) PyData.int ?_
    fail "kr"
    refine ⟨wip1 rfl hj, Nat.le_of_ble_eq_true rfl, by omega, fun a ha => ?_, ?_⟩
    · unfold Turn1C
      simp only [List.set_cons_zero, List.set_cons_succ]
      fail "kr"
      refine ⟨⟨by decide, by decide, by decide⟩, ?_⟩
      fail "kr"
      refine ⟨rfl, rfl, fun _ => ?_⟩
      fail "kr"
      exact ⟨rfl, rfl⟩
    · fail "kr"
      have hf := List.length_filter_le (fun z : Int => decide (1000000000000000000 ≤ z)) ns
      refine ⟨by rw [List.length_map]; show 2 + _ ≤ _; omega, ?_⟩
      refine rt_l ⟨g :: 0 :: ns.filter fun z => decide (1000000000000000000 ≤ z), rfl, ?_, ?_, fun x hx => ?_⟩
      · show 2 ≤ _ + 1 + 1
        omega
      · show _ + 1 + 1 ≤ 1000
        omega
      · rcases List.mem_cons.mp hx with rfl | hx
        · exact hg
        rcases List.mem_cons.mp hx with rfl | hx
        · exact Int.le_refl _
        have := of_decide_eq_true (List.mem_filter.mp hx).2
        omega
theorem ok__law_off (D : Df K mg "_law_off" s__law_off ["_law_d", "_law_most"]) (B : Bn mg) : Cal P w K mg base 1 "_law_off" (spDi K 1 pOff tOff) := by
  have nd := sc__law_off.nd
  refine calDi D sc__law_off rfl fun f cdv A outer st H E hr => ⟨_, (pss_cons (ps_if (PW.pt (pw_and (pt_cmpR op_eq (pe_ix (Kk.ix_list (K := K)) (pv 0) pe_int (fun _ _ => rfl)) pe_int (nomark _)) (pw_and1 (pt_cmpR op_gt (pe_callB (Kk.call_len_seq (K := K)) (by rfl) B.len (by decide +kernel) (pa_cons (pv 0) pa_nil)) pe_int (nomark _))))) (pss_one (ps_asg (Kk.pe_bm (K := K) PySem.F.plainAttrs_list PySem.F.slot_list_pop PySem.F.type_list_pop mt_popAt (pv 0) (pa_cons pe_int pa_nil)) (pg_sub (pv 0) pe_int set_list))) pss_nil)
      (pss_cons (ps_if (pt_cmpR op_gt (pe_ix (Kk.ix_list (K := K)) (pv 0) pe_int (fun _ _ => rfl)) pe_int (nomark _)) (pss_cons (ps_set (i := 2) nd rfl (Or.inl rfl) (pe_op op_mod (pe_ix (Kk.ix_list (K := K)) (pv 0) pe_int (fun _ _ => rfl)) (pv 1)))
      (pss_cons (ps_asg (pe_op op_fdiv (pe_ix (Kk.ix_list (K := K)) (pv 0) pe_int (fun _ _ => rfl)) (pv 1)) (pg_sub (pv 0) pe_int set_list))
      (pss_one (ps_ret (pv 2))))) pss_nil)
      (pss_cons (ps_asg (pe_op op_mod (pe_op op_add (pe_op op_mul (pe_ix (Kk.ix_list (K := K)) (pv 0) pe_int (fun _ _ => rfl)) pe_int) pe_int) pe_int) (pg_sub (pv 0) pe_int set_list))
      (pss_one (ps_ret (pe_op op_mod (pe_op op_fdiv (pe_ix (Kk.ix_list (K := K)) (pv 0) pe_int (fun _ _ => rfl)) pe_int) (pv 1))))))), fun d ds hn hp => ?_⟩
  obtain ⟨k, rfl, hk, hk2⟩ := hp
  show ExS K _ _ [.ow (RDi d), .pu (.int k), .non]
  refine xs_dopen (j := 0) rfl fun xs ok => ?_
  obtain ⟨h2, h1000, hpos⟩ := ok
  match xs, h2, h1000, hpos with
  | x0 :: x1 :: r, h2, h1000, hpos =>
  have p0 := hpos x0 (List.mem_cons_self ..)
  have p1 := hpos x1 (List.mem_cons_of_mem _ (List.mem_cons_self ..))
  have pr : ∀ x ∈ r, 0 ≤ x := fun x hx => hpos x (List.mem_cons_of_mem _ (List.mem_cons_of_mem _ hx))
  have hr1 : r.length ≤ 998 := by have : r.length + 1 + 1 ≤ 1000 := h1000; omega
  refine xs_seq (xs_mid (fun δ' => ∃ x1 r, δ' = [.ow (RDl d (x0 :: x1 :: r)), .pu (.int k), .non] ∧ 0 ≤ x1 ∧ (∀ x ∈ r, 0 ≤ x) ∧ r.length ≤ 998) ?_ ?_)
  · fail "kr"
    refine ifB (fun h1 => ?_) (fun h1 => ?_)
    · fail "kr"
      refine ifB (fun h2 => ?_) (fun h2 => ?_)
      · match r, of_decide_eq_true h2, hr1, pr with
        | [], h2, _, _ => exact absurd (show (2 : Int) < 2 from h2) (by decide)
        | r0 :: r, _, hr1, pr =>
        have hrl : r.length + 1 ≤ 998 := hr1
        fail "kr"
        refine ev_Dpop (i := 2) (xs := x0 :: x1 :: r0 :: r) rfl rfl (by show r.length + 1 + 1 + 1 ≤ _; omega) ?_
        refine ⟨_, _, _, _, rfl, rfl, ixN_nat (k := 1) (by show 1 < _ + 1 + 1; omega), ?_⟩
        exact ⟨r0, r, rfl, pr r0 (List.mem_cons_self ..), fun x hx => pr x (List.mem_cons_of_mem _ hx), by omega⟩
      · fail "kr"
        exact ⟨x1, r, rfl, p1, pr, hr1⟩
    · fail "kr"
      exact ⟨x1, r, rfl, p1, pr, hr1⟩
  · clear pr hr1 p1
    rintro _ ⟨x1, r, rfl, p1, pr, hr1⟩
    have okr : ∀ a b : Int, 0 ≤ a → 0 ≤ b → DiceOk (a :: b :: r) := fun a b ha hb => ⟨Nat.le_add_left _ _, by show r.length + 1 + 1 ≤ 1000; omega, fun x hx => by
      rcases List.mem_cons.mp hx with rfl | hx
      · exact ha
      rcases List.mem_cons.mp hx with rfl | hx
      · exact hb
      exact pr x hx⟩
    fail "krE"
    refine ifB (fun h1 => ?_) (fun h1 => ?_)
    · fail "krE"
      refine ⟨hk, ?_⟩
      fail "krE"
      refine ⟨⟨hk, hk2⟩, ?_⟩
      refine ⟨_, _, _, _, rfl, rfl, ixN_nat (k := 1) (by show 1 < _ + 1 + 1; omega), ?_⟩
      fail "krE"
      refine xs_dclose (j := 0) rfl (okr _ _ p0 (Int.ediv_nonneg p1 (Int.le_of_lt hk))) ?_
      fail "kr"
      exact ⟨rt_d fun k2 hk2 => by
        cases hk2
        have h0 := Int.emod_nonneg x1 (b := k) (by omega)
        have h3 := Int.emod_lt_of_pos x1 hk
        exact ⟨(x1 % k).toNat, by rw [Int.toNat_of_nonneg h0], by omega⟩, rfl, fun z => nomatch z⟩
    · fail "krE"
      refine ⟨.inr (by decide), ?_⟩
      fail "krE"
      refine ⟨by decide, ?_⟩
      refine ⟨_, _, _, _, rfl, rfl, ixN_nat (k := 0) (by show 0 < _ + 1 + 1; omega), ?_⟩
      fail "krE"
      have hq : 0 ≤ (x0 * 48271 + 11) % 2147483647 := Int.emod_nonneg _ (by decide)
      generalize (x0 * 48271 + 11) % 2147483647 = q at hq
      refine xs_ret ?_
      fail "krE"
      refine ⟨⟨by decide, by decide⟩, ?_⟩
      refine ev_dclose (j := 0) rfl (okr q x1 hq p1) ?_
      fail "kr"
      refine ⟨hk, ?_⟩
      exact ⟨rt_d fun k2 hk2 => by
        cases hk2
        have h0 := Int.emod_nonneg (q / 64) (b := k) (by omega)
        have h3 := Int.emod_lt_of_pos (q / 64) hk
        exact ⟨(q / 64 % k).toNat, by rw [Int.toNat_of_nonneg h0], by omega⟩, rfl, fun z => nomatch z⟩
end
end Kr

namespace Kr
open PySem PySem.Spec PyProof.Rows L2 Dl
open Evl (Ex)
/-- data of depth n, its rows short -/
def szD : Nat → PyData → Prop
  | 0, d => flatD d = true
  | n + 1, d => flatD d = true ∨ ∃ ds, (d = .list ds ∨ d = .tuple ds) ∧ ds.length ≤ 100000 ∧ ∀ x ∈ ds, szD n x
theorem szD_flat {n : Nat} {d : PyData} (h : flatD d = true) : szD n d := by
  cases n with
  | zero => exact h
  | succ n => exact .inl h
theorem szD_list {n : Nat} {ds : List PyData} (hl : ds.length ≤ 100000) (h : ∀ x ∈ ds, szD n x) : szD (n + 1) (.list ds) := .inr ⟨ds, .inl rfl, hl, h⟩
theorem szD_tuple {n : Nat} {ds : List PyData} (hl : ds.length ≤ 100000) (h : ∀ x ∈ ds, szD n x) : szD (n + 1) (.tuple ds) := .inr ⟨ds, .inr rfl, hl, h⟩
theorem filter_yes {α : Type} (xs : List α) : xs.filter (fun _ => true) = xs := by induction xs with | nil => rfl | cons x r ih => rw [List.filter_cons, ih]; rfl
theorem map_const {α β : Type} (xs : List α) (b : β) : xs.map (fun _ => b) = List.replicate xs.length b := by induction xs with | nil => rfl | cons x r ih => rw [List.map_cons, ih]; rfl
section
variable {P : Program} {w : World} {K : PySem.W.Frag} {mg : Str → Option Value} {base : Heap}
theorem cal_never {x : Str} {st : Stmt} {ps : List Str} {n : Nat} {pre : List PyData → Prop} {T : List PyData → Rt → Prop} (D : Df K mg x st ps) (hp : ∀ ds, ¬ pre ds) : Cal P w K mg base 0 x (spP K n pre T) := by
  obtain ⟨f, fd, F, hm, hb⟩ := D.ex
  exact ⟨f, fd, ps, ⟨fun vs H Q E ⟨_, ds, _, _, _, h, _⟩ => (hp ds h).elim, fun A outer s H args us vs Q E _ _ _ _ ⟨_, ds, _, _, _, h, _⟩ => (hp ds h).elim⟩, hm, F.kp, hb⟩
def tTrue2 (_ : List PyData) (r : Rt) : Prop := r = .d (.bool true)
def pAlike : Nat → List PyData → Prop
  | 0, _ => False
  | n + 1, ds => ∃ x, ds = [x, x] ∧ szD n x
theorem ok__law_alike (D : Df K mg "_law_alike" s__law_alike ["_law_found", "_law_due"]) (B : Bn mg) : ∀ k : Nat, Cal P w K mg base k "_law_alike" (spP K 2 (pAlike k) tTrue2)
  | 0 => cal_never D fun _ h => h
  | k + 1 => by
    have c__law_alike := ok__law_alike D B k
    have nd := sc__law_alike.nd
    refine calP D sc__law_alike rfl fun f cdv A outer st H E hr => ⟨_, (pss_cons (ps_if (pt_cmp (pc_isN (pv 1))) (pss_one (ps_ret (pe_cmp (pc_isN (pv 0)) rfl))) pss_nil)
      (pss_cons (ps_if (pt_val (pe_callB (Kk.call_isi (K := K)) (by rfl) B.isinstance (by decide +kernel) (pa_cons (pv 1) (pa_cons (pe_bltn (v := .ty "bool") (u := .type "bool") (by rfl) B.bool (by decide +kernel) rfl) pa_nil)))) (pss_one (ps_ret (pe_and (pe_callB (Kk.call_isi (K := K)) (by rfl) B.isinstance (by decide +kernel) (pa_cons (pv 0) (pa_cons (pe_bltn (v := .ty "bool") (u := .type "bool") (by rfl) B.bool (by decide +kernel) rfl) pa_nil))) (pe_one (pe_cmpR op_eq (pv 0) (pv 1) (nomark _)))))) pss_nil)
      (pss_cons (ps_if (pt_val (pe_callB (Kk.call_isi (K := K)) (by rfl) B.isinstance (by decide +kernel) (pa_cons (pv 1) (pa_cons (pe_bltn (v := .ty "int") (u := .type "int") (by rfl) B.int (by decide +kernel) rfl) pa_nil)))) (pss_one (ps_ret (pe_and (pe_callB (Kk.call_isi (K := K)) (by rfl) B.isinstance (by decide +kernel) (pa_cons (pv 0) (pa_cons (pe_bltn (v := .ty "int") (u := .type "int") (by rfl) B.int (by decide +kernel) rfl) pa_nil))) (pe_and (pe_not (pe_callB (Kk.call_isi (K := K)) (by rfl) B.isinstance (by decide +kernel) (pa_cons (pv 0) (pa_cons (pe_bltn (v := .ty "bool") (u := .type "bool") (by rfl) B.bool (by decide +kernel) rfl) pa_nil)))) (pe_one (pe_cmpR op_eq (pv 0) (pv 1) (nomark _))))))) pss_nil)
      (pss_cons (ps_if (pt_val (pe_callB (Kk.call_isi (K := K)) (by rfl) B.isinstance (by decide +kernel) (pa_cons (pv 1) (pa_cons (pe_bltn (v := .ty "str") (u := .type "str") (by rfl) B.str (by decide +kernel) rfl) pa_nil)))) (pss_one (ps_ret (pe_and (pe_callB (Kk.call_isi (K := K)) (by rfl) B.isinstance (by decide +kernel) (pa_cons (pv 0) (pa_cons (pe_bltn (v := .ty "str") (u := .type "str") (by rfl) B.str (by decide +kernel) rfl) pa_nil))) (pe_one (pe_cmpR op_eq (pv 0) (pv 1) (nomark _)))))) pss_nil)
      (pss_cons (ps_if (PW.pt (pw_or (pt_cmpR op_ne (pe_callB (Kk.call_isi (K := K)) (by rfl) B.isinstance (by decide +kernel) (pa_cons (pv 1) (pa_cons (pe_bltn (v := .ty "tuple") (u := .type "tuple") (by rfl) B.tuple (by decide +kernel) rfl) pa_nil))) (pe_callB (Kk.call_isi (K := K)) (by rfl) B.isinstance (by decide +kernel) (pa_cons (pv 0) (pa_cons (pe_bltn (v := .ty "tuple") (u := .type "tuple") (by rfl) B.tuple (by decide +kernel) rfl) pa_nil))) (nomark _)) (pw_or1 (pt_cmpR op_ne (pe_callB (Kk.call_isi (K := K)) (by rfl) B.isinstance (by decide +kernel) (pa_cons (pv 1) (pa_cons (pe_bltn (v := .ty "list") (u := .type "list") (by rfl) B.list (by decide +kernel) rfl) pa_nil))) (pe_callB (Kk.call_isi (K := K)) (by rfl) B.isinstance (by decide +kernel) (pa_cons (pv 0) (pa_cons (pe_bltn (v := .ty "list") (u := .type "list") (by rfl) B.list (by decide +kernel) rfl) pa_nil))) (nomark _))))) (pss_one (ps_ret pe_bl)) pss_nil)
      (pss_cons (ps_if (pt_cmpR op_ne (pe_callB (Kk.call_len_seq (K := K)) (by rfl) B.len (by decide +kernel) (pa_cons (pv 0) pa_nil)) (pe_callB (Kk.call_len_seq (K := K)) (by rfl) B.len (by decide +kernel) (pa_cons (pv 1) pa_nil)) (nomark _)) (pss_one (ps_ret pe_bl)) pss_nil)
      (pss_one (ps_ret (pe_callB (Kk.cr_all (K := K) rfl) (by rfl) B.all (by decide +kernel) (pa_cons (pe_lc (own := [("_law_k", 2)]) rfl nd (pi_range1 (by rfl) B.range (pa_cons (pe_callB (Kk.call_len_seq (K := K)) (by rfl) B.len (by decide +kernel) (pa_cons (pv 1) pa_nil)) pa_nil)) (blkOk_by (by kernel_rfl)) (fun _ _ _ _ _ => (pg_name (i := 2) nd rfl (by first | exact Or.inl rfl | exact Or.inr rfl))) (fun _ _ _ _ _ => pts_nil) (fun _ _ _ _ _ => (Dl.pe_c c__law_alike hr (pa_cons (pe_ix (Kk.ix_both (K := K)) (pv 0) (pv 2) (fun _ _ => rfl)) (pa_cons (pe_ix (Kk.ix_both (K := K)) (pv 1) (pv 2) (fun _ _ => rfl)) pa_nil)) (Nat.le_refl _)))) pa_nil)))))))))), fun ds hn hp => ?_⟩
    obtain ⟨x, rfl, hx⟩ := hp
    show ExS K _ _ [.pu x, .pu x, .non]
    have flat : flatD x = true ∨ ∃ k2 ds, k = k2 + 1 ∧ (x = .list ds ∨ x = .tuple ds) ∧ ds.length ≤ 100000 ∧ ∀ x ∈ ds, szD k2 x := by
      cases k with
      | zero => exact .inl hx
      | succ k2 =>
        rcases hx with h | ⟨ds, h1, h2, h3⟩
        · exact .inl h
        · exact .inr ⟨k2, ds, rfl, h1, h2, h3⟩
    rcases flat with h | ⟨k2, ds, rfl, h1, h2, h3⟩
    · cases x with
      | none => fail "kr"; exact rt_d rfl
      | bool b =>
        cases b <;>
        · fail "kr"
          exact rt_d rfl
      | int i =>
        fail "kr"
        exact rt_d (by rw [decide_eq_true rfl]; rfl)
      | str s =>
        fail "kr"
        exact rt_d (by rw [decide_eq_true rfl]; rfl)
      | list _ => cases h
      | tuple _ => cases h
      | dict _ => cases h
    · rcases h1 with rfl | rfl
      · fail "kr"
        rw [decide_eq_true rfl]
        fail "kr"
        refine ev_fR (fun _ => true) (fun _ => .bool true) ?_
        fail "kr"
        refine ⟨wip1 rfl junk_non, Nat.le_of_ble_eq_true rfl, h2, fun a ha => ?_, ?_⟩
        · unfold Turn1C
          simp only [List.set_cons_zero, List.set_cons_succ]
          have hat : atI ds (a : Int) = some ds[a] := atI_nat' (List.getElem?_eq_getElem ha)
          fail "kr"
          refine ⟨rfl, rfl, fun _ => ?_⟩
          refine ed_of (ev_call ?_)
          fail "kr"
          refine ⟨_, _, _, .inl den_pu, rfl, hat, ?_⟩
          fail "kr"
          refine ⟨_, _, _, .inl den_pu, rfl, hat, ?_⟩
          fail "kr"
          refine ⟨rfl, ⟨ds[a], rfl, h3 _ (List.getElem_mem ha)⟩, fun r hr => ?_⟩
          cases (show r = .d (.bool true) from hr)
          exact ⟨_, frz_pu, rfl, rfl⟩
        · rw [filter_yes, map_const, List.length_range]
          refine ⟨List.replicate ds.length true, ?_, rt_d (by rw [List.all_replicate]; cases ds.length <;> rfl)⟩
          rw [List.map_replicate]
          exact den_ow
      · fail "kr"
        rw [decide_eq_true rfl]
        fail "kr"
        refine ev_fR (fun _ => true) (fun _ => .bool true) ?_
        fail "kr"
        refine ⟨wip1 rfl junk_non, Nat.le_of_ble_eq_true rfl, h2, fun a ha => ?_, ?_⟩
        · unfold Turn1C
          simp only [List.set_cons_zero, List.set_cons_succ]
          have hat : atI ds (a : Int) = some ds[a] := atI_nat' (List.getElem?_eq_getElem ha)
          fail "kr"
          refine ⟨rfl, rfl, fun _ => ?_⟩
          refine ed_of (ev_call ?_)
          fail "kr"
          refine ⟨_, _, _, .inr rfl, rfl, hat, ?_⟩
          fail "kr"
          refine ⟨_, _, _, .inr rfl, rfl, hat, ?_⟩
          fail "kr"
          refine ⟨rfl, ⟨ds[a], rfl, h3 _ (List.getElem_mem ha)⟩, fun r hr => ?_⟩
          cases (show r = .d (.bool true) from hr)
          exact ⟨_, frz_pu, rfl, rfl⟩
        · rw [filter_yes, map_const, List.length_range]
          refine ⟨List.replicate ds.length true, ?_, rt_d (by rw [List.all_replicate]; cases ds.length <;> rfl)⟩
          rw [List.map_replicate]
          exact den_ow
end
end Kr

local macro_rules | `(tactic| fail "krd") => `(tactic| (refine Dl.ev_callD rfl ?_; fail "kr"; refine ⟨rfl, rfl, ?_, ?_⟩))
namespace Kr
open PySem PySem.Spec PyProof.Rows L2 Dl
open Evl (Ex)
theorem getD_mem {α : Type} {xs : List α} {i : Nat} (h : i < xs.length) : xs[i]? = some xs[i] := List.getElem?_eq_getElem h
theorem er_mapD : ∀ (xs : List Int) (i : Nat), (xs.eraseIdx i).map PyData.int = (xs.map PyData.int).eraseIdx i
  | [], _ => rfl
  | _ :: _, 0 => rfl
  | x :: r, i + 1 => by
    show _ = PyData.int x :: (r.map PyData.int).eraseIdx i
    rw [← er_mapD r i]
    rfl
theorem perm_erase {α : Type} : ∀ {xs : List α} {i : Nat} {a : α}, xs[i]? = some a → (a :: xs.eraseIdx i).Perm xs
  | x :: r, 0, a, h => by
    cases h
    exact .refl _
  | x :: r, i + 1, a, h => ((List.Perm.swap x a _).trans (.cons x (perm_erase (xs := r) (i := i) h)))
section
variable {P : Program} {w : World} {K : PySem.W.Frag} {mg : Str → Option Value} {base : Heap}
def pMixed (ds : List PyData) : Prop := ∃ ns : List Int, ds = [.list (ns.map PyData.int)] ∧ ns.length ≤ 1000
def tMixed (ds : List PyData) (r : Rt) : Prop := ∀ ns : List Int, ds = [.list (ns.map PyData.int)] → ∃ ms : List Int, r = .l (ms.map PyData.int) ∧ ms.Perm ns
theorem intsD_inj {a b : List Int} (h : a.map PyData.int = b.map PyData.int) : a = b := List.map_inj_right (fun x y h => PyData.int.inj h) |>.mp h
theorem ok__law_mixed (D : Df K mg "_law_mixed" s__law_mixed ["_law_d", "_law_row_here"]) (B : Bn mg) (c__law_off : Cal P w K mg base 1 "_law_off" (spDi K 1 pOff tOff)) : Cal P w K mg base 2 "_law_mixed" (spDi K 1 pMixed tMixed) := by
  have nd := sc__law_mixed.nd
  refine calDi D sc__law_mixed rfl fun f cdv A outer st H E hr => ⟨_, (pss_cons (ps_set (i := 2) nd rfl (Or.inl rfl) (pe_callTy (Kk.call_list_of (K := K)) (by rfl) B.list (by decide +kernel) (pa_cons (pv 1) pa_nil)))
      (pss_cons (ps_set (i := 3) nd rfl (Or.inl rfl) (pe_lst pa_nil))
      (pss_cons (ps_while PassesOwn.never (pt_cmpR (Kk.op_neD (K := K) hr.units) (pv 2) (pe_lst pa_nil) (nomark _)) (pss_one (ps_expr (Kk.pe_bm (K := K) PySem.F.plainAttrs_list PySem.F.slot_list_append PySem.F.type_list_append mt_append (pv 3) (pa_cons (Kk.pe_bm (K := K) PySem.F.plainAttrs_list PySem.F.slot_list_pop PySem.F.type_list_pop mt_popAt (pv 2) (pa_cons (Dl.pe_c c__law_off hr (pa_cons (pv 0) (pa_cons (pe_callB (Kk.call_len_seq (K := K)) (by rfl) B.len (by decide +kernel) (pa_cons (pv 2) pa_nil)) pa_nil))) pa_nil)) pa_nil)))))
      (pss_one (ps_ret (pv 3)))))), fun d ds hn hp => ?_⟩
  obtain ⟨ns, rfl, hl⟩ := hp
  show ExS K _ _ [.ow (RDi d), .pu (.list (ns.map PyData.int)), .non, .non]
  fail "kr"
  refine xs_while (fun m δ' => ∃ left found : List Int, δ' = [.ow (RDi d), .pu (.list (ns.map PyData.int)), .ow (RL K (left.map PyData.int)), .ow (RL K (found.map PyData.int))] ∧ (found ++ left).Perm ns ∧ m = left.length) ns.length ⟨ns, [], rfl, .refl _, rfl⟩ ?_
  rintro m _ ⟨left, found, rfl, hperm, rfl⟩
  have hlen := hperm.length_eq
  rw [List.length_append] at hlen
  fail "kr"
  refine ⟨shaped_ints _, ?_⟩
  fail "kr"
  cases hleft : left with
  | nil =>
    fail "kr"
    refine ⟨rt_al rfl fun ns2 e => ⟨found, rfl, ?_⟩, rfl, fun z => nomatch z⟩
    have e2 : ns = ns2 := intsD_inj (PyData.list.inj (List.head_eq_of_cons_eq e))
    subst hleft
    rw [List.append_nil] at hperm
    exact e2 ▸ hperm
  | cons l0 lr =>
    rw [← hleft]
    have hpos : 0 < left.length := by rw [hleft]; exact Nat.succ_pos _
    refine ifT (by rw [hleft]; rfl) ?_
    fail "kr"
    refine ev_popAt rfl ?_
    fail "kr"
    rw [List.length_map]
    refine ⟨rfl, _, rfl, by omega, by omega, fun x hx => ?_⟩
    have hx' : x < left.length := by omega
    refine ⟨_, rfl, x, .int left[x], rfl, by rw [List.getElem?_map, getD_mem hx']; rfl, by rw [List.length_map]; omega, ?_⟩
    fail "kr"
    refine ⟨by rw [List.length_map]; omega, ?_⟩
    fail "kr"
    refine ⟨(left.eraseIdx x).length, ?_, left.eraseIdx x, found ++ [left[x]], ?_, ?_, rfl⟩
    · rw [List.length_eraseIdx_of_lt hx']
      omega
    · rw [List.map_append, er_mapD]
      rfl
    · refine List.Perm.trans ?_ hperm
      rw [List.append_assoc]
      exact .append_left _ (perm_erase (getD_mem hx'))
def pNo (ds : List PyData) : Prop := ds = []
structure TimesOk (a b c s t : Int) : Prop where
  takes : 1 ≤ a ∧ a ≤ 20
  ends : 1 ≤ b ∧ b ≤ 20
  waits : 1 ≤ c ∧ c ≤ 20
  stays : 1 ≤ s ∧ s ≤ 50
  tries : 1 ≤ t ∧ t ≤ 9
def tTimes (_ : List PyData) (r : Rt) : Prop := ∃ a b c s t : Int, r = .d (.tuple [.int a, .int b, .int c, .int s, .int t]) ∧ TimesOk a b c s t
theorem ok__law_times (D : Df K mg "_law_times" s__law_times ["_law_d"]) (B : Bn mg) (c__law_off : Cal P w K mg base 1 "_law_off" (spDi K 1 pOff tOff)) : Cal P w K mg base 2 "_law_times" (spDi K 0 pNo tTimes) := by
  have nd := sc__law_times.nd
  refine calDi D sc__law_times rfl fun f cdv A outer st H E hr => ⟨_, (pss_cons (ps_set (i := 1) nd rfl (Or.inl rfl) (pe_ix (Kk.ix_list (K := K)) (pe_lst (pa_cons pe_int (pa_cons pe_int pa_nil))) (pe_callTy call_int1 (by rfl) B.int (by decide +kernel) (pa_cons (pe_cmpR op_eq (Dl.pe_c c__law_off hr (pa_cons (pv 0) (pa_cons pe_int pa_nil))) pe_int (nomark _)) pa_nil)) (fun _ _ => rfl)))
      (pss_cons (ps_set (i := 2) nd rfl (Or.inl rfl) (pe_ix (Kk.ix_list (K := K)) (pe_lst (pa_cons pe_int (pa_cons pe_int (pa_cons pe_int (pa_cons (pe_op op_add pe_int (Dl.pe_c c__law_off hr (pa_cons (pv 0) (pa_cons pe_int pa_nil)))) pa_nil))))) (Dl.pe_c c__law_off hr (pa_cons (pv 0) (pa_cons pe_int pa_nil))) (fun _ _ => rfl)))
      (pss_cons (ps_set (i := 3) nd rfl (Or.inl rfl) (pe_ix (Kk.ix_list (K := K)) (pe_lst (pa_cons (pe_op op_add pe_int (Dl.pe_c c__law_off hr (pa_cons (pv 0) (pa_cons pe_int pa_nil)))) (pa_cons (pe_op op_add pe_int (Dl.pe_c c__law_off hr (pa_cons (pv 0) (pa_cons pe_int pa_nil)))) pa_nil))) (pe_callTy call_int1 (by rfl) B.int (by decide +kernel) (pa_cons (pe_cmpR op_eq (Dl.pe_c c__law_off hr (pa_cons (pv 0) (pa_cons pe_int pa_nil))) pe_int (nomark _)) pa_nil)) (fun _ _ => rfl)))
      (pss_one (ps_ret (pe_tup (pa_cons (pe_op op_add pe_int (Dl.pe_c c__law_off hr (pa_cons (pv 0) (pa_cons (pv 1) pa_nil)))) (pa_cons (pe_op op_add pe_int (Dl.pe_c c__law_off hr (pa_cons (pv 0) (pa_cons (pv 1) pa_nil)))) (pa_cons (pe_op op_add pe_int (Dl.pe_c c__law_off hr (pa_cons (pv 0) (pa_cons (pv 1) pa_nil)))) (pa_cons (pv 3) (pa_cons (pv 2) pa_nil))))))))))), fun d ds hn hp => ?_⟩
  cases (show ds = [] from hp)
  show ExS K _ _ [.ow (RDi d), .non, .non, .non]
  have two : ∀ (b : Bool) (x y : Int), ∃ z, atI [PyData.int x, .int y] (if b = true then 1 else 0) = some (.int z) ∧ (z = x ∨ z = y) := fun b x y => by
    cases b
    · exact ⟨x, rfl, .inl rfl⟩
    · exact ⟨y, rfl, .inr rfl⟩
  fail "kr"
  intro x1 hx1
  fail "kr"
  obtain ⟨few, e1, hfew⟩ := two (decide ((x1 : Int) = 0)) 3 20
  refine ⟨_, _, _, den_ow, rfl, e1, ?_⟩
  fail "kr"
  intro x2 hx2
  fail "kr"
  intro x3 hx3
  fail "kr"
  have e2 : ∃ z, atI [PyData.int 2, .int 3, .int 9, .int (1 + (x2 : Int))] (x3 : Int) = some (.int z) ∧ 1 ≤ z ∧ z ≤ 9 := by
    have h : x3 = 0 ∨ x3 = 1 ∨ x3 = 2 ∨ x3 = 3 := by omega
    rcases h with rfl | rfl | rfl | rfl
    · exact ⟨2, rfl, by decide, by decide⟩
    · exact ⟨3, rfl, by decide, by decide⟩
    · exact ⟨9, rfl, by decide, by decide⟩
    · exact ⟨1 + (x2 : Int), rfl, by omega, by omega⟩
  obtain ⟨tries, e2, ht⟩ := e2
  refine ⟨_, _, _, den_ow, rfl, e2, ?_⟩
  fail "kr"
  intro x4 hx4
  fail "kr"
  intro x5 hx5
  fail "kr"
  intro x6 hx6
  fail "kr"
  obtain ⟨stays, e3, hs⟩ := two (decide ((x6 : Int) = 0)) (1 + (x4 : Int)) (1 + (x5 : Int))
  refine ⟨_, _, _, den_ow, rfl, e3, ?_⟩
  fail "kr"
  refine ⟨rfl, _, rfl, by omega, by omega, fun x7 hx7 => ?_⟩
  fail "kr"
  refine ⟨rfl, _, rfl, by omega, by omega, fun x8 hx8 => ?_⟩
  fail "kr"
  refine ⟨rfl, _, rfl, by omega, by omega, fun x9 hx9 => ?_⟩
  fail "kr"
  refine ⟨rt_d ⟨_, _, _, _, _, rfl, ⟨by omega, by omega⟩, ⟨by omega, by omega⟩, ⟨by omega, by omega⟩, ⟨by omega, by omega⟩, ht⟩, rfl, fun z => nomatch z⟩
end
end Kr

namespace Kr
open PySem PySem.Spec PyProof.Rows L2 Dl
open Evl (Ex)
theorem rgI_iz (n : Nat) : rgI 0 (n : Int) = iz (List.range n) := by
  unfold rgI iz
  rw [Int.sub_zero, Int.toNat_natCast]
  exact List.map_congr_left fun i _ => Int.zero_add _
theorem perm_iz {ms : List Int} {ns : List Nat} (h : ms.Perm (iz ns)) : ∃ o : List Nat, ms = iz o ∧ o.Perm ns := by
  refine ⟨ms.map Int.toNat, ?_, ?_⟩
  · unfold iz
    rw [List.map_map]
    have : ∀ x ∈ ms, ((fun (n : Nat) => (n : Int)) ∘ Int.toNat) x = x := fun x hx => by
      obtain ⟨y, rfl, _⟩ := iz_ex (h.mem_iff.mp hx)
      show ((Int.toNat (y : Int) : Nat) : Int) = _
      rw [Int.toNat_natCast]
    rw [List.map_congr_left this]
    exact (List.map_id _).symm
  · have := h.map Int.toNat
    have e : (iz ns).map Int.toNat = ns := by
      unfold iz
      rw [List.map_map]
      exact (List.map_congr_left (fun x _ => Int.toNat_natCast x)).trans (List.map_id _)
    rwa [e] at this
theorem nodup_len' : ∀ (l o : List Nat), l.Nodup → (∀ x ∈ l, x ∈ o) → l.length ≤ o.length
  | [], _, _, _ => Nat.zero_le _
  | a :: r, o, hd, h => by
    obtain ⟨h1, h2⟩ := List.nodup_cons.mp hd
    have := nodup_len' r (o.erase a) h2 fun x hx => (List.mem_erase_of_ne (by intro e; subst e; exact h1 hx)).mpr (h x (List.mem_cons_of_mem _ hx))
    have ha := h a (List.mem_cons_self ..)
    rw [List.length_erase_of_mem ha] at this
    have := List.length_pos_of_mem ha
    rw [List.length_cons]
    omega
def tupD (l : List Nat) : PyData := .tuple ((iz l).map PyData.int)
/-- wants told of so far: each service wants those ahead of it in a row o -/
def Told (o : List Nat) (ws : List (List Nat)) : Prop := ws.length = o.length ∧ ∀ i l, ws[i]? = some l → l.Pairwise (· < ·) ∧ ∀ x ∈ l, x < o.length ∧ o.idxOf x < o.idxOf i
structure Row (o : List Nat) (n : Nat) : Prop where
  perm : o.Perm (List.range n)
theorem Row.len {o : List Nat} {n : Nat} (h : Row o n) : o.length = n := by rw [h.perm.length_eq, List.length_range]
theorem Row.nd {o : List Nat} {n : Nat} (h : Row o n) : o.Nodup := h.perm.nodup_iff.mpr List.nodup_range
theorem Row.lt {o : List Nat} {n : Nat} (h : Row o n) {x : Nat} (hx : x ∈ o) : x < n := List.mem_range.mp (h.perm.mem_iff.mp hx)
theorem Row.at {o : List Nat} {n k : Nat} (h : Row o n) (hk : k < o.length) : o.idxOf o[k] = k := h.nd.idxOf_getElem k hk
/-- some of those ahead of place q -/
def Some_ (o : List Nat) (q : Nat) (l : List Nat) : Prop := l.Nodup ∧ ∀ x ∈ l, ∃ k, k < q ∧ o[k]? = some x
theorem Some_.nil {o : List Nat} {q : Nat} : Some_ o q [] := ⟨List.nodup_nil, fun x hx => nomatch hx⟩
theorem Some_.snoc {o : List Nat} {k : Nat} {l : List Nat} (hn : o.Nodup) (h : Some_ o k l) (hk : k < o.length) : Some_ o (k + 1) (l ++ [o[k]]) := by
  refine ⟨?_, fun x hx => ?_⟩
  · rw [List.nodup_append]
    refine ⟨h.1, List.nodup_cons.mpr ⟨by simp, List.nodup_nil⟩, fun a ha b hb e => ?_⟩
    rw [List.mem_singleton.mp hb] at e
    obtain ⟨j, hj, ho⟩ := h.2 a ha
    obtain ⟨hj2, e2⟩ := List.getElem?_eq_some_iff.mp ho
    have := hn.idxOf_getElem j hj2
    rw [e2, e, hn.idxOf_getElem k hk] at this
    omega
  · rcases List.mem_append.mp hx with hx | hx
    · obtain ⟨j, hj, ho⟩ := h.2 x hx
      exact ⟨j, by omega, ho⟩
    · rw [List.mem_singleton.mp hx]
      exact ⟨k, by omega, List.getElem?_eq_getElem hk⟩
theorem Some_.up {o : List Nat} {k k2 : Nat} {l : List Nat} (h : Some_ o k l) (l2 : k ≤ k2) : Some_ o k2 l := ⟨h.1, fun x hx => by
  obtain ⟨j, hj, ho⟩ := h.2 x hx
  exact ⟨j, by omega, ho⟩⟩
theorem Some_.one {o : List Nat} {k q : Nat} (hk : k < o.length) (hq : k < q) : Some_ o q [o[k]] := ⟨List.nodup_cons.mpr ⟨by simp, List.nodup_nil⟩, fun x hx => by
  rw [List.mem_singleton.mp hx]
  exact ⟨k, hq, List.getElem?_eq_getElem hk⟩⟩
theorem Some_.take {o : List Nat} {q : Nat} (hn : o.Nodup) : Some_ o q (o.take q) := ⟨hn.sublist (List.take_sublist q o), fun x hx => by
  obtain ⟨k, hk⟩ := List.mem_iff_getElem?.mp hx
  rw [List.getElem?_take] at hk
  split at hk
  · exact ⟨k, by assumption, hk⟩
  · cases hk⟩
theorem Some_.len {o : List Nat} {q : Nat} {l : List Nat} (h : Some_ o q l) : l.length ≤ o.length := by
  have := nodup_len' l o h.1 fun x hx => by
    obtain ⟨k, _, hk⟩ := h.2 x hx
    exact List.mem_of_getElem? hk
  exact this
theorem rise_of {l : List Nat} (h : (iz l).Pairwise (· ≤ ·)) (hn : l.Nodup) : l.Pairwise (· < ·) := by
  unfold iz at h
  rw [List.pairwise_map] at h
  exact (h.and hn).imp fun ⟨a, b⟩ => by omega
theorem atIz {o : List Nat} {k : Nat} (hk : k < o.length) : atI ((iz o).map PyData.int) (k : Int) = some (.int (o[k] : Int)) := atI_nat' (by
  unfold iz
  rw [List.map_map, List.getElem?_map, List.getElem?_eq_getElem hk]
  rfl)
theorem cut_take {ds : List PyData} {q : Nat} (h : q ≤ ds.length) : Dl.cutD ds none (some (q : Int)) = ds.take q := by
  unfold Dl.cutD
  rw [HT.sIx_nat, HT.sIx_none, Nat.min_eq_left h]
  rfl
theorem Told.set {o : List Nat} {n q : Nat} {ws : List (List Nat)} {l : List Nat} (hr : Row o n) (h : Told o ws) (hq : q < o.length) (hl : l.Pairwise (· < ·)) (hs : ∀ x ∈ l, ∃ k, k < q ∧ o[k]? = some x) : Told o (ws.set o[q] l) := by
  refine ⟨by rw [List.length_set]; exact h.1, fun i l' hi => ?_⟩
  by_cases e : o[q] = i
  · subst e
    have hlt : o[q] < ws.length := by rw [h.1, hr.len]; exact hr.lt (List.getElem_mem hq)
    rw [List.getElem?_set_self hlt] at hi
    cases hi
    refine ⟨hl, fun x hx => ?_⟩
    obtain ⟨k, hk, hko⟩ := hs x hx
    obtain ⟨hk2, rfl⟩ := List.getElem?_eq_some_iff.mp hko
    refine ⟨by rw [hr.len]; exact hr.lt (List.getElem_mem hk2), ?_⟩
    rw [hr.at hk2, hr.at hq]
    exact hk
  · rw [List.getElem?_set_ne e] at hi
    exact h.2 i l' hi
theorem told_nil {o : List Nat} {n : Nat} (hr : Row o n) : Told o (List.replicate n []) := by
  refine ⟨by rw [List.length_replicate, hr.len], fun i l hi => ?_⟩
  obtain ⟨h1, h2⟩ := List.getElem?_eq_some_iff.mp hi
  rw [List.getElem_replicate] at h2
  subst h2
  exact ⟨List.Pairwise.nil, fun x hx => nomatch hx⟩
theorem told_good {o : List Nat} {n : Nat} {ws : List (List Nat)} {p : Pl} (hr : Row o n) (h : Told o ws) (h1 : 1 ≤ n) (h12 : n ≤ 12) (hp : p.length = n) (hs : ∀ (i : Nat) (s : Svc), p[i]? = some s → ws[i]? = some s.wants ∧ TimesOk s.takes s.ends s.waits s.stays s.tries) : Good p := by
  refine ⟨⟨by omega, by omega, fun i s hi => ?_⟩, fun i => o.idxOf i, fun i x hx => ?_⟩
  · obtain ⟨hw, ht⟩ := hs i s hi
    obtain ⟨a, b⟩ := h.2 i _ hw
    refine ⟨a, fun x hx => ?_, ht.takes, ht.ends, ht.waits, ht.stays, ht.tries⟩
    obtain ⟨c, d⟩ := b x hx
    rw [hr.len] at c
    exact ⟨by omega, fun e => by rw [e] at d; omega⟩
  · unfold wantsOf at hx
    cases hi : p[i]? with
    | none => rw [hi] at hx; cases hx
    | some s =>
      rw [hi] at hx
      exact (h.2 i _ (hs i s hi).1).2 x hx |>.2
section
variable {P : Program} {w : World} {K : PySem.W.Frag} {mg : Str → Option Value} {base : Heap}
def pPlan (ds : List PyData) : Prop := ∃ k : Nat, ds = [.int (k : Int)] ∧ 1 ≤ k ∧ k ≤ 12
def tPlan (ds : List PyData) (r : Rt) : Prop := ∀ k : Nat, ds = [.int (k : Int)] → ∃ p : Pl, r = .d (planD p) ∧ Good p ∧ p.length ≤ k
theorem ok__law_plan (D : Df K mg "_law_plan" s__law_plan ["_law_d", "_law_limit"]) (B : Bn mg) (c__law_off : Cal P w K mg base 1 "_law_off" (spDi K 1 pOff tOff)) (c__law_mixed : Cal P w K mg base 2 "_law_mixed" (spDi K 1 pMixed tMixed)) (c__law_times : Cal P w K mg base 2 "_law_times" (spDi K 0 pNo tTimes)) : Cal P w K mg base 3 "_law_plan" (spDi K 1 pPlan tPlan) := by
  have nd := sc__law_plan.nd
  refine calDi D sc__law_plan rfl fun f cdv A outer st H E hr => ⟨_, (pss_cons (ps_set (i := 2) nd rfl (Or.inl rfl) (pe_op op_add pe_int (Dl.pe_c c__law_off hr (pa_cons (pv 0) (pa_cons (pv 1) pa_nil)))))
      (pss_cons (ps_set (i := 3) nd rfl (Or.inr rfl) (Dl.pe_c c__law_mixed hr (pa_cons (pv 0) (pa_cons (pe_listRg rfl (by rfl) B.list (prg_1 (by rfl) B.range (pv 2))) pa_nil))))
      (pss_cons (ps_set (i := 4) nd rfl (Or.inl rfl) (Dl.pe_c c__law_off hr (pa_cons (pv 0) (pa_cons pe_int pa_nil))))
      (pss_cons (ps_set (i := 5) nd rfl (Or.inr rfl) (pe_ix (Kk.ix_list (K := K)) (pe_lst (pa_cons pe_int (pa_cons pe_int (pa_cons pe_int (pa_cons pe_int (pa_cons pe_int (pa_cons pe_int pa_nil))))))) (pv 4) (fun _ _ => rfl)))
      (pss_cons (ps_set (i := 6) nd rfl (Or.inr rfl) (pe_op op_rep (pe_lst (pa_cons (pe_tup pa_nil) pa_nil)) (pv 2)))
      (pss_cons (ps_for PassesOwn.never rfl (pi_range2 (by rfl) B.range (pa_cons pe_int (pa_cons (pv 2) pa_nil))) (pg_name (i := 7) nd rfl (Or.inl rfl)) (pss_cons (ps_setLc (own := [("_law_k", 9)]) (i := 8) rfl nd rfl rfl (sw_true rfl rfl rfl (by decide +kernel)) (pi_range1 (by rfl) B.range (pa_cons (pv 7) pa_nil)) (blkOk_by (by kernel_rfl)) (fun _ _ _ _ _ => (pg_name (i := 9) nd rfl (by first | exact Or.inl rfl | exact Or.inr rfl))) (fun _ _ _ _ _ => (pts_one (pt_cmpR op_eq (Dl.pe_c c__law_off hr (pa_cons (pv 0) (pa_cons (pv 5) pa_nil))) pe_int (nomark _)))) (fun _ _ _ _ _ => (pe_ix (Kk.ix_list (K := K)) (pv 3) (pv 9) (fun _ _ => rfl))))
      (pss_cons (ps_if (pt_cmpR op_eq (pv 4) pe_int (nomark _)) (pss_one (ps_set (i := 8) nd rfl (Or.inl rfl) (pe_lst (pa_cons (pe_ix (Kk.ix_list (K := K)) (pv 3) (pe_op op_sub (pv 7) pe_int) (fun _ _ => rfl)) pa_nil)))) pss_nil)
      (pss_cons (ps_if (pt_cmpR op_eq (pv 4) pe_int (nomark _)) (pss_one (ps_set (i := 8) nd rfl (Or.inl rfl) (pe_lst (pa_cons (pe_ix (Kk.ix_list (K := K)) (pv 3) (Dl.pe_c c__law_off hr (pa_cons (pv 0) (pa_cons (pv 7) pa_nil))) (fun _ _ => rfl)) pa_nil)))) pss_nil)
      (pss_cons (ps_if (pt_cmpR op_eq (pv 4) pe_int (nomark _)) (pss_one (ps_set (i := 8) nd rfl (Or.inl rfl) (pe_ifExp (pt_cmpR op_eq (pv 7) (pe_op op_sub (pv 2) pe_int) (nomark _)) (pe_slice (Kk.sl_list (K := K)) (pv 3) po_none (po_some (pv 7))) (pe_lst pa_nil)))) pss_nil)
      (pss_one (ps_asg (Kk.pe_tupleOf (K := K) (by rfl) B.tuple (pe_callB (Kk.cr_sortedI (K := K)) (by rfl) B.sorted (by decide +kernel) (pa_cons (pv 8) pa_nil))) (pg_sub (pv 6) (pe_ix (Kk.ix_list (K := K)) (pv 3) (pv 7) (fun _ _ => rfl)) set_list))))))))
      (pss_one (ps_ret (Kk.pe_tupleOf (K := K) (by rfl) B.tuple (pe_lc (own := [("_law_number_here", 10)]) rfl nd (pi_range1 (by rfl) B.range (pa_cons (pv 2) pa_nil)) (blkOk_by (by kernel_rfl)) (fun _ _ _ _ _ => (pg_name (i := 10) nd rfl (by first | exact Or.inl rfl | exact Or.inr rfl))) (fun _ _ _ _ _ => pts_nil) (fun _ _ _ _ _ => (pe_op (Kk.op_catA (K := K)) (pe_tup (pa_cons (pe_ix (Kk.ix_list (K := K)) (pv 6) (pv 10) (fun _ _ => rfl)) pa_nil)) (Dl.pe_c c__law_times hr (pa_cons (pv 0) pa_nil)))))))))))))), fun d ds hn hp => ?_⟩
  obtain ⟨lim, rfl, hl1, hl2⟩ := hp
  show ExS K _ _ [.ow (RDi d), .pu (.int lim), .non, .non, .non, .non, .non, .non, .non, .non, .non]
  fail "kr"
  refine ⟨rfl, _, rfl, by omega, by omega, fun x1 hx1 => ?_⟩
  fail "kr"
  have en : (1 + (x1 : Int)) = ((1 + x1 : Nat) : Int) := by omega
  have hn1 : 1 ≤ 1 + x1 := by omega
  have hn2 : 1 + x1 ≤ lim := by omega
  rw [en]
  generalize 1 + x1 = n at hn1 hn2
  clear en hx1 x1
  refine ev_callD rfl ?_
  fail "kr"
  refine ⟨by omega, by omega, ?_⟩
  rw [rgI_iz]
  fail "kr"
  refine ⟨rfl, rfl, ⟨_, rfl, by rw [iz_len, List.length_range]; omega⟩, fun r hr => ?_⟩
  obtain ⟨ms, rfl, hms⟩ := hr _ rfl
  obtain ⟨o, rfl, ho⟩ := perm_iz hms
  have hrow : Row o n := ⟨ho⟩
  clear hr hms ho
  have hol := hrow.len
  fail "kr"
  intro kind hkind
  fail "kr"
  have e1 : ∃ z, atI [PyData.int 4, .int 4, .int 4, .int 4, .int 2, .int 1] (kind : Int) = some (.int z) ∧ 1 ≤ z ∧ z ≤ 4 := by
    have h : kind = 0 ∨ kind = 1 ∨ kind = 2 ∨ kind = 3 ∨ kind = 4 ∨ kind = 5 := by omega
    rcases h with rfl | rfl | rfl | rfl | rfl | rfl
    · exact ⟨4, rfl, by decide, by decide⟩
    · exact ⟨4, rfl, by decide, by decide⟩
    · exact ⟨4, rfl, by decide, by decide⟩
    · exact ⟨4, rfl, by decide, by decide⟩
    · exact ⟨2, rfl, by decide, by decide⟩
    · exact ⟨1, rfl, by decide, by decide⟩
  obtain ⟨often, e1, hof1, hof2⟩ := e1
  refine ⟨_, _, _, den_ow, rfl, e1, ?_⟩
  fail "kr"
  refine ⟨by omega, by omega, by show 1 * _ ≤ _; omega, ?_⟩
  have ew : (List.replicate ((n : Int)).toNat [PyData.tuple []]).flatten = (List.replicate n ([] : List Nat)).map tupD := by
    rw [Int.toNat_natCast]
    clear hol hrow hn1 hn2
    induction n with
    | zero => rfl
    | succ n ih =>
      rw [List.replicate_succ, List.flatten_cons, ih]
      rfl
  rw [ew]
  fail "kr"
  refine xs_forR2 ?_
  fail "kr"
  refine ⟨⟨by decide, by decide, by omega, by omega⟩, fun _ δ' => ∃ ws s7 s8, δ' = [.ow (RDi d), .pu (.int lim), .pu (.int n), .ow (RL K ((iz o).map PyData.int)), .pu (.int kind), .pu (.int often), .ow (RL K (ws.map tupD)), s7, s8, .non, .non] ∧ Told o ws, ⟨_, _, _, rfl, told_nil hrow⟩, fun i δ' hi => ?_, fun δ' => ?_⟩
  · rintro ⟨ws, s7, s8, rfl, hws⟩
    have eq1 : (1 + (i : Int)) = ((1 + i : Nat) : Int) := by omega
    have hq : 1 + i < n := by omega
    have hq1 : 1 ≤ 1 + i := by omega
    rw [eq1]
    generalize 1 + i = q at hq hq1
    clear eq1 hi
    have hqo : q < o.length := by omega
    refine turn1_name (Nat.le_of_ble_eq_true rfl) ?_
    refine xs_seq ?_
    dsimp only
    refine xs_mid (fun δ' => ∃ l : List Nat, δ' = [.ow (RDi d), .pu (.int lim), .pu (.int n), .ow (RL K ((iz o).map PyData.int)), .pu (.int kind), .pu (.int often), .ow (RL K (ws.map tupD)), .pu (.int q), .ow (RL K ((iz l).map PyData.int)), .non, .non] ∧ Some_ o q l) ?_ ?_
    · fail "kr"
      refine ev_lcR1 ?_
      fail "kr"
      refine ⟨by omega, by omega, wip1 rfl junk_non, fun k acc => ∃ l : List Nat, acc = (iz l).map PyData.int ∧ Some_ o k l, ⟨[], rfl, .nil⟩, ?_, ?_⟩
      · rintro k _ hk ⟨l, rfl, hl⟩
        have hk' : k < o.length := by omega
        refine turnC1 (Nat.le_of_ble_eq_true rfl) ?_
        simp only [List.set_cons_zero, List.set_cons_succ]
        fail "kr"
        refine ⟨rfl, _, rfl, by omega, by omega, fun x hx => ?_⟩
        fail "kr"
        refine ⟨rfl, ifB (fun h => ?_) (fun h => ?_)⟩
        · fail "kr"
          refine ⟨_, _, _, den_al rfl, rfl, atIz hk', ?_⟩
          refine ⟨_, frz_pu, rfl, ?_, l ++ [o[k]], ?_, hl.snoc hrow.nd hk'⟩
          · have := hl.len
            rw [List.length_map, iz_len]
            omega
          · rw [iz_app, List.map_append]
            rfl
        · exact ⟨l, rfl, hl.up (by omega)⟩
      · rintro _ ⟨l, rfl, hl⟩
        fail "kr"
        first | exact ⟨l, rfl, hl.up (by omega)⟩ | exact hl.up (by omega)
    · rintro _ ⟨l, rfl, hl⟩
      refine xs_seq ?_
      dsimp only
      refine xs_mid (fun δ' => ∃ l : List Nat, δ' = [.ow (RDi d), .pu (.int lim), .pu (.int n), .ow (RL K ((iz o).map PyData.int)), .pu (.int kind), .pu (.int often), .ow (RL K (ws.map tupD)), .pu (.int q), .ow (RL K ((iz l).map PyData.int)), .non, .non] ∧ Some_ o q l) ?_ ?_
      · fail "kr"
        refine ifB (fun h => ?_) (fun h => ?_)
        · have eqm : ((q : Int) - 1) = ((q - 1 : Nat) : Int) := by omega
          have hqm : q - 1 < o.length := by omega
          fail "kr"
          rw [eqm]
          refine ⟨_, _, _, den_al rfl, rfl, atIz hqm, ?_⟩
          fail "kr"
          exact ⟨[o[q - 1]], rfl, Some_.one hqm (by omega)⟩
        · fail "kr"
          first | exact ⟨l, rfl, hl⟩ | exact hl
      · clear hl l
        rintro _ ⟨l, rfl, hl⟩
        refine xs_seq ?_
        dsimp only
        refine xs_mid (fun δ' => ∃ l : List Nat, δ' = [.ow (RDi d), .pu (.int lim), .pu (.int n), .ow (RL K ((iz o).map PyData.int)), .pu (.int kind), .pu (.int often), .ow (RL K (ws.map tupD)), .pu (.int q), .ow (RL K ((iz l).map PyData.int)), .non, .non] ∧ Some_ o q l) ?_ ?_
        · fail "kr"
          refine ifB (fun h => ?_) (fun h => ?_)
          · fail "kr"
            refine ⟨rfl, _, rfl, by omega, by omega, fun x hx => ?_⟩
            have hxo : x < o.length := by omega
            refine ⟨_, _, _, den_al rfl, rfl, atIz hxo, ?_⟩
            fail "kr"
            exact ⟨[o[x]], rfl, Some_.one hxo (by omega)⟩
          · fail "kr"
            first | exact ⟨l, rfl, hl⟩ | exact hl
        · clear hl l
          rintro _ ⟨l, rfl, hl⟩
          refine xs_seq ?_
          dsimp only
          refine xs_mid (fun δ' => ∃ l : List Nat, δ' = [.ow (RDi d), .pu (.int lim), .pu (.int n), .ow (RL K ((iz o).map PyData.int)), .pu (.int kind), .pu (.int often), .ow (RL K (ws.map tupD)), .pu (.int q), .ow (RL K ((iz l).map PyData.int)), .non, .non] ∧ Some_ o q l) ?_ ?_
          · fail "kr"
            refine ifB (fun h => ?_) (fun h => ?_)
            · fail "kr"
              refine ifB (fun h => ?_) (fun h => ?_)
              · fail "kr"
                rw [cut_take (by rw [List.length_map, iz_len]; omega)]
                exact ⟨o.take q, by rw [← List.map_take]; unfold iz; rw [← List.map_take]; rfl, Some_.take hrow.nd⟩
              · fail "kr"
                exact ⟨[], rfl, .nil⟩
            · fail "kr"
              first | exact ⟨l, rfl, hl⟩ | exact hl
          · clear hl l
            rintro _ ⟨l, rfl, hl⟩
            fail "kr"
            intro ns' hp hs
            obtain ⟨l', rfl, hp'⟩ := perm_iz hp
            have hr2 : l'.Pairwise (· < ·) := rise_of hs (hp'.nodup_iff.mpr hl.1)
            fail "kr"
            refine ⟨by rw [List.length_map, iz_len, hp'.length_eq]; have := hl.len; omega, ?_⟩
            fail "kr"
            have hoq : o[q] < ws.length := by rw [hws.1, hol]; exact hrow.lt (List.getElem_mem hqo)
            refine ⟨_, _, _, den_al rfl, rfl, atIz hqo, ?_⟩
            refine ⟨_, _, rfl, rfl, ixN_nat (by rw [List.length_map]; exact hoq), ?_⟩
            refine ⟨ws.set o[q] l', .pu (.int (q : Int)), .ow (RL K ((iz l).map PyData.int)), ?_, hws.set hrow hqo hr2 fun x hx => hl.2 x (hp'.mem_iff.mp hx)⟩
            rw [List.map_set]
            rfl
  · rintro ⟨ws, s7, s8, rfl, hws⟩
    fail "kr"
    refine ev_lcR1 ?_
    fail "kr"
    refine ⟨by omega, by omega, wip1 rfl junk_non, fun k acc => ∃ ss : Pl, acc = ss.map svcD ∧ ss.length = k ∧ ∀ (j : Nat) (s : Svc), ss[j]? = some s → ws[j]? = some s.wants ∧ TimesOk s.takes s.ends s.waits s.stays s.tries, ⟨[], rfl, rfl, fun j s hj => nomatch hj⟩, ?_, ?_⟩
    · rintro k _ hk ⟨ss, rfl, hsl, hss⟩
      have hkw : k < ws.length := by rw [hws.1]; omega
      have hat : atI (ws.map tupD) (k : Int) = some (tupD ws[k]) := atI_nat' (by rw [List.getElem?_map, List.getElem?_eq_getElem hkw]; rfl)
      refine turnC1 (Nat.le_of_ble_eq_true rfl) ?_
      simp only [List.set_cons_zero, List.set_cons_succ]
      fail "kr"
      refine ⟨rfl, ifT rfl ?_⟩
      fail "kr"
      refine ⟨_, _, _, den_al rfl, rfl, hat, ?_⟩
      fail "kr"
      refine ev_callD rfl ?_
      fail "kr"
      refine ⟨rfl, rfl, rfl, fun r hr => ?_⟩
      obtain ⟨a, b, c, s, t, rfl, ht⟩ := hr
      refine ⟨_, _, rfl, rfl, by show 1 + 5 ≤ 100000; decide, ?_⟩
      refine ⟨_, frz_pu, rfl, by rw [List.length_map]; omega, ss ++ [⟨ws[k], a, b, c, s, t⟩], ?_, ?_, fun j s2 hj => ?_⟩
      · rw [List.map_append]
        rfl
      · rw [List.length_append, hsl]
        rfl
      · rcases Nat.lt_or_ge j ss.length with h | h
        · rw [List.getElem?_append_left h] at hj
          exact hss j s2 hj
        · rw [List.getElem?_append_right h] at hj
          have e0 : j - ss.length = 0 := by
            have := (List.getElem?_eq_some_iff.mp hj).1
            simp at this
            omega
          rw [e0] at hj
          cases hj
          have ej : j = k := by omega
          subst ej
          exact ⟨List.getElem?_eq_getElem hkw, ht⟩
    · rintro _ ⟨ss, rfl, hsl, hss⟩
      have hsl' : ss.length = n := by omega
      fail "kr"
      refine ⟨by rw [List.length_map]; omega, ?_⟩
      exact ⟨rt_d fun k2 hk2 => by
        cases hk2
        exact ⟨ss, rfl, told_good hrow hws hn1 (by omega) hsl' hss, by omega⟩, rfl, fun z => nomatch z⟩
end
end Kr

namespace Kr
open PySem PySem.Spec PyProof.Rows L2 Dl
open Evl (Ex)
section
variable {P : Program} {w : World} {K : PySem.W.Frag} {mg : Str → Option Value} {base : Heap}
def strsD (l : List Str) : List PyData := l.map PyData.str
def tWritten (ds : List PyData) (r : Rt) : Prop := ∀ p : Pl, ds = [planD p] → r = .d (.str (textOf p))
theorem shaped_intsT (ns : List Int) : SeqAt.shaped (.tuple (ns.map PyData.int)) = true := (okD_tuple (n := 0) fun x hx => by
  obtain ⟨n, _, rfl⟩ := List.mem_map.mp hx
  exact okD_int).shaped (by decide)
theorem shaped_nilT2 : SeqAt.shaped (.tuple []) = true := by decide +kernel
theorem filter_yes' {α : Type} (xs : List α) : xs.filter (fun _ => true) = xs := by induction xs with | nil => rfl | cons x r ih => rw [List.filter_cons, ih]; rfl
theorem planD_inj' {p q : Pl} (h : planD p = planD q) : p = q := by
  unfold planD at h
  injection h with h
  have hj : ∀ (a b : Svc), svcD a = svcD b → a = b := by
    rintro ⟨a1, a2, a3, a4, a5, a6⟩ ⟨b1, b2, b3, b4, b5, b6⟩ h
    simp only [svcD, PyData.tuple.injEq, List.cons.injEq, PyData.int.injEq, and_true] at h
    obtain ⟨h1, rfl, rfl, rfl, rfl, rfl⟩ := h
    have e : iz a1 = iz b1 := List.map_inj_right (fun x y h => PyData.int.inj h) |>.mp h1
    have e2 : a1 = b1 := List.map_inj_right (fun (x y : Nat) (h : (x : Int) = (y : Int)) => by omega) |>.mp e
    rw [e2]
  exact List.map_inj_right hj |>.mp h
theorem log_small {i : Int} (h0 : 0 ≤ i) (h : i < 1000) : i.natAbs.log2 < 1920 := by
  have h1 : i.natAbs < 2 ^ 10 := by omega
  by_cases hz : i.natAbs = 0
  · rw [hz]; decide
  · have := (Nat.log2_lt hz).mpr h1
    omega
theorem ok_written (D : Df K mg "written" s_written ["plan"]) (B : Bn mg) (hN : Cst K mg "NONE" (.str dashS)) (c_need_plan : Cal P w K mg base 4 "need_plan" (spP K 1 pGood tNone)) : Cal P w K mg base 5 "written" (spP K 1 pGood tWritten) := by
  have nd := sc_written.nd
  obtain ⟨vN, uN, hmN, rN, dN⟩ := hN.ex
  have g_NONE : ∃ u, mg "NONE" = some u ∧ RelV vN u := ⟨uN, hmN, rN⟩
  refine calP D sc_written rfl fun f cdv A outer st H E hr => ⟨_, (pss_cons (ps_expr (Dl.pe_c c_need_plan hr (pa_cons (pv 0) pa_nil)))
      (pss_cons (ps_set (i := 1) nd rfl (Or.inl rfl) (pe_lst pa_nil))
      (pss_cons (ps_for PassesOwn.never rfl (Kk.pi_tup (K := K) (pv 0)) (pg_name (i := 2) nd rfl (Or.inl rfl)) (pss_cons (ps_set (i := 3) nd rfl (Or.inl rfl) (pe_ifExp (pt_cmpR (Kk.op_neD (K := K) hr.units) (pe_ix (Kk.ix_tup (K := K)) (pv 2) pe_int (fun _ _ => rfl)) (pe_tup pa_nil) (nomark _)) (Kk.pe_join (K := K) pe_str (pe_lc (own := [("one", 4)]) rfl nd (Kk.pi_tup (K := K) (pe_ix (Kk.ix_tup (K := K)) (pv 2) pe_int (fun _ _ => rfl))) (blkOk_by (by kernel_rfl)) (fun _ _ _ _ _ => (pg_name (i := 4) nd rfl (by first | exact Or.inl rfl | exact Or.inr rfl))) (fun _ _ _ _ _ => pts_nil) (fun _ _ _ _ _ => (pe_callTy call_str_int (by rfl) B.str (by decide +kernel) (pa_cons (pv 4) pa_nil))))) (C8.pe_gc (by rfl) g_NONE)))
      (pss_one (ps_expr (Kk.pe_bm (K := K) PySem.F.plainAttrs_list PySem.F.slot_list_append PySem.F.type_list_append mt_append (pv 1) (pa_cons (Kk.pe_join (K := K) pe_str (pe_op (Kk.op_catS (K := K)) (pe_lst (pa_cons (pv 3) pa_nil)) (pe_lc (own := [("part", 5)]) rfl nd (Kk.pi_tup (K := K) (pe_slice (Kk.sl_tupA (K := K)) (pv 2) (po_some pe_int) po_none)) (blkOk_by (by kernel_rfl)) (fun _ _ _ _ _ => (pg_name (i := 5) nd rfl (by first | exact Or.inl rfl | exact Or.inr rfl))) (fun _ _ _ _ _ => pts_nil) (fun _ _ _ _ _ => (pe_callTy call_str_int (by rfl) B.str (by decide +kernel) (pa_cons (pv 5) pa_nil)))))) pa_nil))))))
      (pss_one (ps_ret (Kk.pe_join (K := K) pe_str (pv 1))))))), fun ds hn hp => ?_⟩
  obtain ⟨p, rfl, hg⟩ := hp
  have hlen := hg.sound.few
  show ExS K _ _ [.pu (planD p), .non, .non, .non, .non, .non]
  fail "kr"
  refine ev_call ?_
  fail "kr"
  refine ⟨rfl, ⟨p, rfl, hg⟩, fun r hr => ?_⟩
  cases (show r = .d .none from hr)
  fail "kr"
  refine xs_forT ?_
  fail "kr"
  refine ⟨fun i δ' => ∃ x2 x3, δ' = [.pu (planD p), .ow (RL K (strsD ((p.take i).map rowT))), x2, x3, .non, .non], ⟨_, _, rfl⟩, fun i y δ' hy => ?_, fun δ' => ?_⟩
  · rintro ⟨x2, x3, rfl⟩
    rw [List.getElem?_map] at hy
    cases hs : p[i]? with
    | none => rw [hs] at hy; cases hy
    | some s =>
    rw [hs] at hy
    cases hy
    have g := hg.sound.svc i s hs
    have hil : i < p.length := (List.getElem?_eq_some_iff.mp hs).1
    refine turn1_name (Nat.le_of_ble_eq_true rfl) ?_
    refine xs_seq ?_
    dsimp only
    refine xs_mid (fun δ' => δ' = [.pu (planD p), .ow (RL K (strsD ((p.take i).map rowT))), .pu (svcD s), .pu (.str (wantsW s)), .non, .non]) ?_ ?_
    · fail "kr"
      refine ⟨shaped_intsT _, shaped_nilT2, ?_⟩
      fail "kr"
      rw [eqvT_nil]
      by_cases hw : s.wants = []
      · have ew : wantsW s = dashS := if_pos hw
        refine ifF (by rw [hw]; rfl) ?_
        fail "kr"
        rw [ew]
        first | rfl | skip
      · have hne : (!((iz s.wants).map PyData.int).isEmpty) = true := by
          cases hq : s.wants with
          | nil => exact absurd hq hw
          | cons a r => rfl
        have ew : wantsW s = Txt.join commaS (s.wants.map fun (n : Nat) => numI (n : Int)) := if_neg hw
        have e1 : (iz s.wants).map (fun i => PyData.str (numI i)) = (s.wants.map fun (n : Nat) => numI (n : Int)).map PyData.str := by
          unfold iz
          rw [List.map_map, List.map_map]
          rfl
        have hok := wants_words g hlen
        have hfew := g.few
        refine ifT hne ?_
        fail "kr"
        refine ev_fT (g := PyData.int) (fun _ => true) (fun i => .str (numI i)) ?_
        fail "kr"
        refine ⟨wip1 rfl junk_non, Nat.le_of_ble_eq_true rfl, by rw [iz_len]; omega, fun a ha => ?_, ?_⟩
        · obtain ⟨n, rfl, hn⟩ := iz_ex ha
          have := (g.below n hn).1
          unfold Turn1C
          simp only [List.set_cons_zero, List.set_cons_succ]
          fail "kr"
          refine ⟨rfl, rfl, fun _ => ?_⟩
          fail "kr"
          refine ⟨log_small (by omega) (by omega), ?_⟩
          exact ⟨_, frz_pu, rfl, rfl⟩
        · rw [filter_yes', e1]
          refine ⟨_, .inl den_ow, ?_, ?_⟩
          · have h1 := sum_len (b := 2) fun z hz => (hok z hz).1
            have h2 : (Str.ofString ",").length = 1 := by decide +kernel
            rw [List.length_map] at h1 ⊢
            rw [h2]
            omega
          · fail "kr"
            rw [ew]
            first | rfl | skip
    · rintro _ rfl
      have e2 : (partsOf s).map (fun i => PyData.str (numI i)) = ((partsOf s).map numI).map PyData.str := by
        rw [List.map_map]
        rfl
      fail "kr"
      refine ev_fT (g := PyData.int) (fun _ => true) (fun i => .str (numI i)) ?_
      fail "kr"
      refine ⟨partsOf s, rfl, wip1 rfl junk_non, Nat.le_of_ble_eq_true rfl, by show 5 ≤ 100000; decide, fun a ha => ?_, ?_⟩
      · obtain ⟨n, rfl, hn⟩ := g.num hlen a ha
        unfold Turn1C
        simp only [List.set_cons_zero, List.set_cons_succ]
        fail "kr"
        refine ⟨rfl, rfl, fun _ => ?_⟩
        fail "kr"
        refine ⟨log_small (by omega) (by omega), ?_⟩
        exact ⟨_, frz_pu, rfl, rfl⟩
      · rw [filter_yes', e2]
        have h1 := sum_len (b := 100) fun z hz => (words_ok g hlen z hz).1
        have h2 : (Str.ofString " ").length = 1 := by decide +kernel
        refine ⟨[.str (wantsW s)], _, den_ow, den_ow, by show 1 + 5 ≤ 100000; decide, wordsOf s, .inl den_ow, ?_, ?_⟩
        · rw [h2]
          have h3 : (wordsOf s).length = 6 := rfl
          rw [h3] at h1 ⊢
          omega
        · fail "kr"
          refine ⟨by unfold strsD; rw [List.length_map, List.length_map]; have := List.length_take_le i p; omega, ?_⟩
          refine ⟨.pu (svcD s), .pu (.str (wantsW s)), ?_⟩
          rw [List.take_add_one, hs]
          unfold strsD
          rw [List.map_append, List.map_append]
          rfl
  · rintro ⟨x2, x3, rfl⟩
    fail "kr"
    have e3 : p.take (p.map svcD).length = p := by rw [List.length_map, List.take_length]
    rw [e3]
    have h1 := sum_len (b := 700) fun z hz => (rows_ok hg.sound z hz).1
    have h2 : (Str.ofString "\n").length = 1 := by decide +kernel
    rw [List.length_map] at h1
    refine ⟨by rw [h2, List.length_map]; omega, rt_d fun q hq => ?_⟩
    have : p = q := planD_inj' (List.head_eq_of_cons_eq hq)
    subst this
    rfl
end
end Kr

namespace Kr
open PySem PySem.Spec PyProof.Rows L2 Dl
open Evl (Ex)
def figS : Str := Str.ofString "0123456789"
theorem fig_all {c : Nat} (h : 48 ≤ c ∧ c ≤ 57) : c ∈ figS.cps.toList := by
  have key : ∀ d : Nat, d < 10 → 48 + d ∈ figS.cps.toList := by decide +kernel
  have := key (c - 48) (by omega)
  rwa [show 48 + (c - 48) = c by omega] at this
theorem filter_none {α : Type} {p : α → Bool} : ∀ {xs : List α}, (∀ x ∈ xs, p x = false) → xs.filter p = []
  | [], _ => rfl
  | x :: r, h => by
    rw [List.filter_cons, h x (List.mem_cons_self ..), if_neg Bool.false_ne_true]
    exact filter_none fun y hy => h y (List.mem_cons_of_mem _ hy)
def numL' (n : Nat) : List Nat := TL.numL n
def numW (n : Nat) : Str := numI (n : Int)
section
variable {P : Program} {w : World} {K : PySem.W.Frag} {mg : Str → Option Value} {base : Heap}
def pNum (ds : List PyData) : Prop := ∃ n : Nat, ds = [.str (numW n)] ∧ n < 100
def tNum (ds : List PyData) (r : Rt) : Prop := ∀ n : Nat, ds = [.str (numW n)] → n < 100 → r = .d (.int (n : Int))
theorem numW_inj {n m : Nat} (hn : n < 100) (hm : m < 100) (h : numW n = numW m) : n = m := by
  have h1 := numI_int hn
  have h2 := numI_int hm
  unfold numW at h
  rw [h, h2] at h1
  have := Option.some.inj h1
  omega
theorem ok_number_of (D : Df K mg "number_of" s_number_of ["word"]) (B : Bn mg) (hF : Cst K mg "FIGURES" (.str figS)) : Cal P w K mg base 1 "number_of" (spP K 1 pNum tNum) := by
  have nd := sc_number_of.nd
  obtain ⟨vF, uF, hmF, rF, dF⟩ := hF.ex
  have g_FIGURES : ∃ u, mg "FIGURES" = some u ∧ RelV vF u := ⟨uF, hmF, rF⟩
  refine calP D sc_number_of rfl fun f cdv A outer st H E hr => ⟨_, (pss_cons (ps_if (PW.pt (pw_or (pt_not (pt_chain op_le op_le pe_int (pe_callB call_len_str (by rfl) B.len (by decide +kernel) (pa_cons (pv 0) pa_nil)) pe_int)) (pw_or1 (pt_cmpR (Kk.op_neD (K := K) hr.units) (pe_lc (own := [("sign", 1)]) rfl nd (pi_str (pv 0)) (blkOk_by (by kernel_rfl)) (fun _ _ _ _ _ => (pg_name (i := 1) nd rfl (by first | exact Or.inl rfl | exact Or.inr rfl))) (fun _ _ _ _ _ => (pts_one (pt_cmpR op_notIn_sign (pv 1) (C8.pe_gc (by rfl) g_FIGURES) (by rfl)))) (fun _ _ _ _ _ => (pv 1))) (pe_lst pa_nil) (nomark _))))) (pss_one (ps_ret pe_non)) pss_nil)
      (pss_one (ps_ret (pe_ifExp (PW.pt (pw_and (pt_cmpR op_gt (pe_callB call_len_str (by rfl) B.len (by decide +kernel) (pa_cons (pv 0) pa_nil)) pe_int (nomark _)) (pw_and1 (pt_cmpR op_eq (pe_ix ix_str (pv 0) pe_int (fun _ _ => rfl)) pe_str (nomark _))))) pe_non (pe_callTy call_int_str (by rfl) B.int (by decide +kernel) (pa_cons (pv 0) pa_nil)))))), fun ds hn hp => ?_⟩
  obtain ⟨n, rfl, hn100⟩ := hp
  have hl2 := numI_len hn100
  have hl1 := numI_ne n
  have fin : tNum [.str (numW n)] (.d (.int (n : Int))) := fun m e hm => by
    have : numW n = numW m := PyData.str.inj (List.head_eq_of_cons_eq e)
    rw [numW_inj hn100 hm this]
  show ExS K _ _ [.pu (.str (numW n)), .non]
  have hsz : (numW n).length ≤ sizeLine := by
    have h : sizeLine = 16777216 := rfl
    rw [h]
    unfold numW
    omega
  have hl2' : (numW n).length ≤ 2 := hl2
  have hl1' : 1 ≤ (numW n).length := hl1
  fail "kr"
  refine ⟨hsz, ?_⟩
  fail "kr"
  refine ifT (decide_eq_true (by omega)) ?_
  fail "kr"
  rw [decide_eq_true (show ((numW n).length : Int) ≤ 3 by omega)]
  fail "kr"
  refine ev_fS (fun _ => false) (fun c => .str ⟨#[c]⟩) ?_
  fail "kr"
  refine ⟨wip1 rfl junk_non, Nat.le_of_ble_eq_true rfl, by rw [← TL.len_tl]; omega, fun c hc => ?_, ?_⟩
  · unfold Turn1C
    simp only [List.set_cons_zero, List.set_cons_succ]
    fail "kr"
    rw [decide_eq_true (fig_all (numI_dig hc))]
    exact ⟨rfl, rfl, fun z => nomatch z⟩
  · rw [filter_none (p := fun _ => false) (fun _ _ => rfl)]
    fail "kr"
    refine ⟨Dl.shaped_nil, ?_⟩
    fail "kr"
    refine ⟨hsz, ?_⟩
    fail "kr"
    refine ifB (fun h1 => ?_) (fun h1 => ?_)
    · have hlt : 1 < (numL' n).length := by
        have h2 := of_decide_eq_true h1
        have h3 : (numW n).length = (numL' n).length := by unfold numW numL'; rw [TL.len_tl, tl_numI]
        omega
      have h48 := numL_head n hn100 hlt
      cases hc : (numL' n)[0]? with
      | none =>
        have := List.getElem?_eq_none_iff.mp hc
        omega
      | some c =>
        have hat : atI (numW n).cps.toList 0 = some c := atI_nat' (i := 0) (by rw [show (numW n).cps.toList = numL' n from tl_numI n]; exact hc)
        have hne : decide ((⟨#[c]⟩ : Str) = Str.ofString "0") = false := decide_eq_false fun e => by
          have e2 : TL.tl (⟨#[c]⟩ : Str) = TL.tl (Str.ofString "0") := by rw [e]
          have e3 : TL.tl (Str.ofString "0") = [48] := by decide +kernel
          rw [e3] at e2
          have e4 : c = 48 := List.head_eq_of_cons_eq e2
          subst e4
          exact h48 hc
        fail "kr"
        refine ⟨_, _, c, rfl, rfl, hsz, hat, ?_⟩
        fail "kr"
        rw [hne]
        fail "kr"
        exact ⟨_, _, rfl, numI_int hn100, by omega, rt_d fin⟩
    · fail "kr"
      exact ⟨_, _, rfl, numI_int hn100, by omega, rt_d fin⟩
def pNums (ds : List PyData) : Prop := ∃ ns : List Nat, ds = [.list ((ns.map numW).map PyData.str)] ∧ (∀ n ∈ ns, n < 100) ∧ ns.length ≤ 100
def tNums (ds : List PyData) (r : Rt) : Prop := ∀ ns : List Nat, ds = [.list ((ns.map numW).map PyData.str)] → (∀ n ∈ ns, n < 100) → r = .d (.tuple ((iz ns).map PyData.int))
def valW (z : Str) : PyData := .int ((PySem.intText? z).getD 0)
theorem valW_num {n : Nat} (h : n < 100) : valW (numW n) = .int (n : Int) := by
  unfold valW numW
  rw [numI_int h]
  rfl
theorem vals_num : ∀ {ns : List Nat}, (∀ n ∈ ns, n < 100) → (ns.map numW).map valW = (iz ns).map PyData.int
  | [], _ => rfl
  | n :: r, h => by
    show valW (numW n) :: (r.map numW).map valW = .int (n : Int) :: (iz r).map PyData.int
    rw [valW_num (h n (List.mem_cons_self ..)), vals_num fun m hm => h m (List.mem_cons_of_mem _ hm)]
theorem strsD_inj {a b : List Str} (h : a.map PyData.str = b.map PyData.str) : a = b := List.map_inj_right (fun x y h => PyData.str.inj h) |>.mp h
theorem nums_inj : ∀ {a b : List Nat}, (∀ n ∈ a, n < 100) → (∀ n ∈ b, n < 100) → a.map numW = b.map numW → a = b
  | [], [], _, _, _ => rfl
  | [], _ :: _, _, _, h => by cases h
  | _ :: _, [], _, _, h => by cases h
  | x :: a, y :: b, ha, hb, h => by
    rw [List.map_cons, List.map_cons] at h
    injection h with h1 h2
    rw [numW_inj (ha x (List.mem_cons_self ..)) (hb y (List.mem_cons_self ..)) h1, nums_inj (fun n hn => ha n (List.mem_cons_of_mem _ hn)) (fun n hn => hb n (List.mem_cons_of_mem _ hn)) h2]
theorem ok_numbers_of (D : Df K mg "numbers_of" s_numbers_of ["words"]) (B : Bn mg) (c_number_of : Cal P w K mg base 1 "number_of" (spP K 1 pNum tNum)) : Cal P w K mg base 2 "numbers_of" (spP K 1 pNums tNums) := by
  have nd := sc_numbers_of.nd
  refine calP D sc_numbers_of rfl fun f cdv A outer st H E hr => ⟨_, (pss_cons (ps_setLc (own := [("word", 2)]) (i := 1) rfl nd rfl rfl (sw_true rfl rfl rfl (by decide +kernel)) (Kk.pi_list (K := K) (pv 0)) (blkOk_by (by kernel_rfl)) (fun _ _ _ _ _ => (pg_name (i := 2) nd rfl (by first | exact Or.inl rfl | exact Or.inr rfl))) (fun _ _ _ _ _ => pts_nil) (fun _ _ _ _ _ => (Dl.pe_c c_number_of hr (pa_cons (pv 2) pa_nil))))
      (pss_one (ps_ret (pe_ifExp (pt_cmpR (Kk.op_in_seq (K := K)) pe_non (pv 1) (by rfl)) pe_non (Kk.pe_tupleOf (K := K) (by rfl) B.tuple (pv 1)))))), fun ds hn hp => ?_⟩
  obtain ⟨ns, rfl, h100, hl⟩ := hp
  show ExS K _ _ [.pu (.list ((ns.map numW).map PyData.str)), .non, .non]
  fail "kr"
  refine ev_fL (g := PyData.str) (fun _ => true) valW ?_
  fail "kr"
  refine ⟨wip1 rfl junk_non, Nat.le_of_ble_eq_true rfl, by rw [List.length_map]; omega, fun a ha => ?_, ?_⟩
  · obtain ⟨n, hn2, rfl⟩ := List.mem_map.mp ha
    unfold Turn1C
    simp only [List.set_cons_zero, List.set_cons_succ]
    fail "kr"
    refine ⟨rfl, rfl, fun _ => ?_⟩
    refine ed_of (ev_call ?_)
    fail "kr"
    refine ⟨rfl, ⟨n, rfl, h100 n hn2⟩, fun r hr => ?_⟩
    rw [hr n rfl (h100 n hn2)]
    exact ⟨_, frz_pu, rfl, (valW_num (h100 n hn2)).symm⟩
  · rw [List.filter_eq_self.mpr (fun _ _ => rfl), vals_num h100]
    fail "kr"
    refine .inr (.inr ⟨_, _, rfl, .inl (den_al rfl), rfl, all_ints _, ?_⟩)
    rw [if_neg Bool.false_ne_true, memD_none]
    fail "kr"
    refine ⟨by rw [List.length_map, iz_len]; omega, ?_⟩
    refine rt_d fun ms e hm => ?_
    have e2 : ns.map numW = ms.map numW := strsD_inj (PyData.list.inj (List.head_eq_of_cons_eq e))
    rw [nums_inj h100 hm e2]
end
end Kr

namespace Kr
open PySem PySem.Spec PyProof.Rows L2 Dl
open Evl (Ex)
/-! ### is_service of anything -/
def okW (m i : Nat) (x : PyData) : Bool := betw x 0 ((m : Int) - 1) && match x with | .int k => !decide (k = (i : Int)) | _ => false
def riseD : List PyData → Bool
  | .int a :: .int b :: r => decide (a < b) && riseD (.int b :: r)
  | _ => true
def svcB (m i : Nat) (d : PyData) : Bool := match d with
  | .tuple [.tuple ws, a, b, c, e, g] => ws.all (okW m i) && riseD ws && (betw a 1 20 && betw b 1 20 && betw c 1 20 && betw e 1 50 && betw g 1 9)
  | _ => false
theorem betw_iff {d : PyData} {lo hi : Int} : betw d lo hi = true ↔ ∃ k, d = .int k ∧ lo ≤ k ∧ k ≤ hi := by
  cases d with
  | int k => simp [betw]
  | _ =>
    constructor
    · intro h; cases h
    · rintro ⟨k, e, _⟩; cases e
theorem okW_iff {m i : Nat} {x : PyData} : okW m i x = true ↔ ∃ k : Nat, x = .int (k : Int) ∧ k < m ∧ k ≠ i := by
  cases x with
  | int k =>
    simp only [okW, betw, Bool.and_eq_true, decide_eq_true_eq, Bool.not_eq_true', decide_eq_false_iff_not, PyData.int.injEq]
    constructor
    · rintro ⟨⟨a, b⟩, c⟩
      exact ⟨k.toNat, by omega, by omega, by omega⟩
    · rintro ⟨j, e, a, b⟩
      subst e
      refine ⟨⟨by omega, by omega⟩, by omega⟩
  | _ =>
    constructor
    · intro h; cases h
    · rintro ⟨k, e, _⟩; cases e
theorem okW_all {m i : Nat} : ∀ {ws : List PyData}, ws.all (okW m i) = true → ∃ ns : List Nat, ws = (iz ns).map PyData.int ∧ ∀ x ∈ ns, x < m ∧ x ≠ i
  | [], _ => ⟨[], rfl, fun _ h => nomatch h⟩
  | x :: ws, h => by
    rw [List.all_cons, Bool.and_eq_true] at h
    obtain ⟨k, rfl, a, b⟩ := okW_iff.mp h.1
    obtain ⟨ns, rfl, c⟩ := okW_all h.2
    refine ⟨k :: ns, rfl, fun y hy => ?_⟩
    rcases List.mem_cons.mp hy with rfl | hy
    · exact ⟨a, b⟩
    · exact c y hy
theorem okW_all2 {m i : Nat} {ns : List Nat} (h : ∀ x ∈ ns, x < m ∧ x ≠ i) : ((iz ns).map PyData.int).all (okW m i) = true := by
  rw [List.all_eq_true]
  intro x hx
  obtain ⟨j, hj, rfl⟩ := List.mem_map.mp hx
  obtain ⟨k, rfl, hk⟩ := iz_ex hj
  exact okW_iff.mpr ⟨k, rfl, h k hk⟩
theorem riseD_iff : ∀ {ns : List Int}, riseD (ns.map PyData.int) = true ↔ ns.Pairwise (· < ·)
  | [] => by simp [riseD]
  | [a] => by simp [riseD]
  | a :: b :: r => by
    have ih := riseD_iff (ns := b :: r)
    show (decide (a < b) && riseD ((b :: r).map PyData.int)) = true ↔ _
    rw [Bool.and_eq_true, ih, decide_eq_true_eq]
    constructor
    · rintro ⟨h1, h2⟩
      refine List.pairwise_cons.mpr ⟨fun x hx => ?_, h2⟩
      rcases List.mem_cons.mp hx with rfl | hx
      · exact h1
      · have := (List.pairwise_cons.mp h2).1 x hx
        omega
    · intro h
      obtain ⟨h1, h2⟩ := List.pairwise_cons.mp h
      exact ⟨h1 b (List.mem_cons_self ..), h2⟩
theorem iz_rise2 {ns : List Nat} (h : (iz ns).Pairwise (· < ·)) : ns.Pairwise (· < ·) := by
  unfold iz at h
  rw [List.pairwise_map] at h
  exact h.imp fun z => by omega
theorem svcB_iff {m i : Nat} {d : PyData} : svcB m i d = true ↔ ∃ s, d = svcD s ∧ GoodS m i s := by
  constructor
  · intro h
    unfold svcB at h
    split at h
    · rename_i ws a b c e g
      simp only [Bool.and_eq_true] at h
      obtain ⟨⟨h1, h2⟩, ⟨⟨⟨ha, hb⟩, hc⟩, he⟩, hg⟩ := h
      obtain ⟨ns, rfl, hn⟩ := okW_all h1
      obtain ⟨a, rfl, ha'⟩ := betw_iff.mp ha
      obtain ⟨b, rfl, hb'⟩ := betw_iff.mp hb
      obtain ⟨c, rfl, hc'⟩ := betw_iff.mp hc
      obtain ⟨e, rfl, he'⟩ := betw_iff.mp he
      obtain ⟨g, rfl, hg'⟩ := betw_iff.mp hg
      exact ⟨⟨ns, a, b, c, e, g⟩, rfl, ⟨iz_rise2 (riseD_iff.mp h2), hn, ha', hb', hc', he', hg'⟩⟩
    · cases h
  · rintro ⟨s, rfl, g⟩
    simp only [svcB, svcD, Bool.and_eq_true]
    exact ⟨⟨okW_all2 g.below, riseD_iff.mpr (iz_rise g.rise)⟩, ⟨⟨⟨betw_yes g.takes.1 g.takes.2, betw_yes g.ends.1 g.ends.2⟩, betw_yes g.waits.1 g.waits.2⟩, betw_yes g.stays.1 g.stays.2⟩, betw_yes g.tries.1 g.tries.2⟩
theorem svcB_six {m i : Nat} {ds : List PyData} (h : ds.length ≠ 6) : svcB m i (.tuple ds) = false := by
  unfold svcB
  split
  · rename_i e; cases e; exact absurd rfl h
  · rfl
theorem svcB_first {m i : Nat} {x : PyData} {ds : List PyData} (h : isTup x = false) : svcB m i (.tuple (x :: ds)) = false := by
  unfold svcB
  split
  · rename_i e; cases e; cases h
  · rfl
/-- data that a service may be asked of -/
def okSvc (d : PyData) : Prop := ∀ ws r, d = .tuple (.tuple ws :: r) → ws.length ≤ 4094 ∧ ∀ x ∈ ws, okD 3 x
section
variable {P : Program} {w : World} {K : PySem.W.Frag} {mg : Str → Option Value} {base : Heap}
def pSvcX (ds : List PyData) : Prop := ∃ (d : PyData) (m i : Nat), ds = [d, .int (m : Int), .int (i : Int)] ∧ okSvc d ∧ m ≤ 12
def tSvcX (ds : List PyData) (r : Rt) : Prop := ∀ (d : PyData) (m i : Nat), ds = [d, .int (m : Int), .int (i : Int)] → r = .d (.bool (svcB m i d))
theorem ok_is_serviceX (D : Df K mg "is_service" s_is_service ["service", "many", "number"]) (B : Bn mg) (c_is_between : Cal P w K mg base 1 "is_between" (spP K 3 pBetween tBetween)) (hB : Cst K mg "BOUNDS" boundsD) :
    Cal P w K mg base 2 "is_service" (spP K 3 pSvcX tSvcX) := by
  have nd := sc_is_service.nd
  obtain ⟨vB, uB, hmB, rB, dB⟩ := hB.ex
  have g_BOUNDS : ∃ u, mg "BOUNDS" = some u ∧ RelV vB u := ⟨uB, hmB, rB⟩
  refine calP D sc_is_service rfl fun f cdv A outer st H E hr => ⟨_, (pss_cons (ps_if (PW.pt (pw_or (pt_not (pt_val (pe_callB (Kk.call_isi (K := K)) (by rfl) B.isinstance (by decide +kernel) (pa_cons (pv 0) (pa_cons (pe_bltn (v := .ty "tuple") (u := .type "tuple") (by rfl) B.tuple (by decide +kernel) rfl) pa_nil))))) (pw_or (pt_cmpR op_ne (pe_callB (Kk.call_len_seq (K := K)) (by rfl) B.len (by decide +kernel) (pa_cons (pv 0) pa_nil)) pe_int (nomark _)) (pw_or1 (pt_not (pt_val (pe_callB (Kk.call_isi (K := K)) (by rfl) B.isinstance (by decide +kernel) (pa_cons (pe_ix (Kk.ix_tup (K := K)) (pv 0) pe_int (fun _ _ => rfl)) (pa_cons (pe_bltn (v := .ty "tuple") (u := .type "tuple") (by rfl) B.tuple (by decide +kernel) rfl) pa_nil))))))))) (pss_one (ps_ret pe_bl)) pss_nil)
      (pss_cons (ps_set (i := 3) nd rfl (Or.inl rfl) (pe_ix (Kk.ix_tup (K := K)) (pv 0) pe_int (fun _ _ => rfl)))
      (pss_cons (ps_if (pt_cmpR (Kk.op_neD (K := K) hr.units) (pe_lc (own := [("one", 4)]) rfl nd (Kk.pi_tup (K := K) (pv 3)) (blkOk_by (by kernel_rfl)) (fun _ _ _ _ _ => (pg_name (i := 4) nd rfl (by first | exact Or.inl rfl | exact Or.inr rfl))) (fun _ _ _ _ _ => (pts_one (PW.pt (pw_or (pt_not (pt_val (Dl.pe_c c_is_between hr (pa_cons (pv 4) (pa_cons pe_int (pa_cons (pe_op op_sub (pv 1) pe_int) pa_nil)))))) (pw_or1 (pt_cmpR op_eq (pv 4) (pv 2) (nomark _))))))) (fun _ _ _ _ _ => (pv 4))) (pe_lst pa_nil) (nomark _)) (pss_one (ps_ret pe_bl)) pss_nil)
      (pss_cons (ps_if (pt_cmpR (Kk.op_neD (K := K) hr.units) (pe_callTy (Kk.call_list_of (K := K)) (by rfl) B.list (by decide +kernel) (pa_cons (pv 3) pa_nil)) (pe_callB (Rk.cr_sortedSetL (w := w) rfl) (by rfl) B.sorted (by decide +kernel) (pa_cons (pe_callTy (Kk.cr_setI (K := K) (w := w) rfl) (by rfl) B.set_ (by decide +kernel) (pa_cons (pv 3) pa_nil)) pa_nil)) (nomark _)) (pss_one (ps_ret pe_bl)) pss_nil)
      (pss_one (ps_ret (pe_cmpR (Kk.op_eqD (K := K) hr.units) (pe_lc (own := [("k", 5)]) rfl nd (pi_range1 (by rfl) B.range (pa_cons pe_int pa_nil)) (blkOk_by (by kernel_rfl)) (fun _ _ _ _ _ => (pg_name (i := 5) nd rfl (by first | exact Or.inl rfl | exact Or.inr rfl))) (fun _ _ _ _ _ => (pts_one (pt_not (pt_val (Dl.pe_c c_is_between hr (pa_cons (pe_ix (Kk.ix_tup (K := K)) (pv 0) (pe_op op_add pe_int (pv 5)) (fun _ _ => rfl)) (pa_cons (pe_ix (Kk.ix_tup (K := K)) (pe_ix (Kk.ix_tup (K := K)) (C8.pe_gc (by rfl) g_BOUNDS) (pv 5) (fun _ _ => rfl)) pe_int (fun _ _ => rfl)) (pa_cons (pe_ix (Kk.ix_tup (K := K)) (pe_ix (Kk.ix_tup (K := K)) (C8.pe_gc (by rfl) g_BOUNDS) (pv 5) (fun _ _ => rfl)) pe_int (fun _ _ => rfl)) pa_nil)))))))) (fun _ _ _ _ _ => (pv 5))) (pe_lst pa_nil) (nomark _)))))))), fun ds hn hp => ?_⟩
  obtain ⟨d, m, i, rfl, hk, hm12⟩ := hp
  have fin : ∀ {b : Bool}, b = svcB m i d → tSvcX [d, .int (m : Int), .int (i : Int)] (.d (.bool b)) := fun {b} e d' m' i' z => by cases z; rw [e]
  show ExS K _ _ [.pu d, .pu (.int m), .pu (.int i), .non, .non, .non]
  fail "kr"
  cases hd : d with
  | tuple ds =>
    subst hd
    fail "kr"
    by_cases h6 : ds.length = 6
    case neg =>
      rw [decide_eq_false (show ¬ ((ds.length : Int) = 6) by omega)]
      fail "kr"
      exact rt_d (fin (svcB_six h6).symm)
    rw [decide_eq_true (show ((ds.length : Int) = 6) by omega)]
    obtain ⟨x, q1, q2, q3, q4, q5, rfl⟩ : ∃ x q1 q2 q3 q4 q5, ds = [x, q1, q2, q3, q4, q5] := by
      match ds, h6 with
      | [x, q1, q2, q3, q4, q5], _ => exact ⟨x, q1, q2, q3, q4, q5, rfl⟩
    fail "kr"
    cases hx : isTup x
    case false =>
      fail "kr"
      exact rt_d (fin (svcB_first hx).symm)
    obtain ⟨ws, rfl⟩ : ∃ ws, x = .tuple ws := by
      cases x with
      | tuple ws => exact ⟨ws, rfl⟩
      | _ => cases hx
    obtain ⟨hl, hw⟩ := hk ws _ rfl
    fail "kr"
    refine ev_fT (g := id) (fun a => !okW m i a) id ?_
    fail "kr"
    refine ⟨ws, by rw [List.map_id], wip1 rfl junk_non, Nat.le_of_ble_eq_true rfl, by omega, fun y hy => ?_, _, den_ow, ?_, ?_⟩
    · unfold Turn1C
      simp only [List.set_cons_zero, List.set_cons_succ]
      show EvT K _ [.pu (.tuple [.tuple ws, q1, q2, q3, q4, q5]), .pu (.int m), .pu (.int i), .pu (.tuple ws), .pu y, .non] _
      fail "kr"
      refine ev_call ?_
      fail "kr"
      refine ⟨rfl, ⟨_, _, _, rfl⟩, fun r hr => ?_⟩
      rw [hr _ _ _ rfl]
      fail "kr"
      cases hb : betw y 0 ((m : Int) - 1) with
      | false =>
        have e : okW m i y = false := by unfold okW; rw [hb]; rfl
        rw [e]
        refine ifT rfl ?_
        refine ⟨rfl, rfl, fun _ => ?_⟩
        fail "kr"
        exact ⟨rfl, rfl⟩
      | true =>
        obtain ⟨k, rfl, hk1, hk2⟩ := betw_iff.mp hb
        refine ifF rfl ?_
        fail "kr"
        have e : okW m i (.int k) = !decide (k = (i : Int)) := by unfold okW; rw [hb]; rfl
        rw [e, Bool.not_not]
        refine ⟨rfl, rfl, fun _ => ?_⟩
        fail "kr"
        exact ⟨rfl, rfl⟩
    · refine (okD_list (n := 3) fun z hz => ?_).shaped (by decide)
      rw [List.map_id] at hz
      exact hw z (List.mem_filter.mp hz).1
    rw [List.map_id]
    cases hall : ws.all (okW m i) with
    | false =>
      have e : (ws.filter fun a => !okW m i a).isEmpty = false := by
        rw [List.isEmpty_eq_false_iff]
        intro h0
        have : ws.all (okW m i) = true := List.all_eq_true.mpr fun z hz => by
          cases hz2 : okW m i z with
          | true => rfl
          | false =>
            have : z ∈ ws.filter fun a => !okW m i a := List.mem_filter.mpr ⟨hz, by rw [hz2]; rfl⟩
            rw [h0] at this
            cases this
        rw [hall] at this
        cases this
      rw [e]
      fail "kr"
      exact rt_d (fin (by simp [svcB, hall]))
    | true =>
      have e : (ws.filter fun a => !okW m i a).isEmpty = true := by
        rw [List.isEmpty_iff, List.filter_eq_nil_iff]
        intro z hz
        rw [List.all_eq_true.mp hall z hz]
        decide
      rw [e]
      obtain ⟨ns, rfl, hns⟩ := okW_all hall
      fail "kr"
      refine ev_sortedSetLJ ?_
      fail "kr"
      refine ⟨by rw [List.length_map] at hl; exact hl, fun l hnd hsub => ?_, fun ns' h1 h2 => ⟨_, _, den_ow, den_ow, shaped_ints _, shaped_ints _, ?_⟩⟩
      · have := nodup_lt m l hnd fun k hk => by
          obtain ⟨y, rfl, hy⟩ := iz_ex (hsub k hk)
          have := hns y hy
          omega
        omega
      rw [eqvL_ints]
      cases hr : riseD ((iz ns).map PyData.int) with
      | false =>
        rw [decide_eq_false (fun e => by
          rw [e, riseD_iff.mpr h1] at hr
          cases hr)]
        fail "kr"
        exact rt_d (fin (by simp [svcB, hr]))
      | true =>
        have e := rising_unique h1 (riseD_iff.mp hr) h2
        subst e
        rw [decide_eq_true rfl]
        fail "kr"
        refine ev_fR (fun k => !betw ([q1, q2, q3, q4, q5].getD k .none) 1 ([20, 20, 20, 50, 9].getD k 0)) (fun k => .int (k : Int)) ?_
        fail "kr"
        refine ⟨wip1 rfl junk_non, Nat.le_of_ble_eq_true rfl, Nat.le_of_ble_eq_true rfl, fun a ha => ?_, ?_⟩
        · unfold Turn1C
          simp only [List.set_cons_zero, List.set_cons_succ]
          fail "kr"
          refine ev_call ?_
          fail "kr"
          have ha5 : a < 5 := ha
          have h5 : a = 0 ∨ a = 1 ∨ a = 2 ∨ a = 3 ∨ a = 4 := by omega
          rcases h5 with rfl | rfl | rfl | rfl | rfl <;>
          · fail "kr"
            refine ⟨rfl, ⟨_, _, _, rfl⟩, fun r hr => ?_⟩
            rw [hr _ _ _ rfl]
            fail "kr"
            exact ⟨rfl, rfl, fun _ => by
              fail "kr"
              exact ⟨rfl, rfl⟩⟩
        refine ⟨_, den_ow, ?_, ?_⟩
        · exact (okD_list (n := 0) fun z hz => by
            obtain ⟨k, _, rfl⟩ := List.mem_map.mp hz
            exact okD_int).shaped (by decide)
        refine rt_d (fin ?_)
        have e0 : svcB m i (.tuple [.tuple ((iz ns).map PyData.int), q1, q2, q3, q4, q5]) = (betw q1 1 20 && betw q2 1 20 && betw q3 1 20 && betw q4 1 50 && betw q5 1 9) := by
          simp only [svcB, hall, hr, Bool.true_and]
        rw [e0]
        show (List.map _ (List.filter _ [0, 1, 2, 3, 4])).isEmpty = _
        simp only [List.filter_cons, List.filter_nil, List.getD_cons_zero, List.getD_cons_succ]
        cases betw q1 1 20 <;> cases betw q2 1 20 <;> cases betw q3 1 20 <;> cases betw q4 1 50 <;> cases betw q5 1 9 <;> rfl
  | _ => subst hd; fail "kr"; exact rt_d (fin rfl)
end
end Kr

namespace Kr
open PySem PySem.Spec PyProof.Rows L2 Dl
open Evl (Ex)
/-! ### rings, as the program finds them -/
inductive Ro (α : Type) where
  | out (r : List Nat) | on (s : α)
def ringOnes (b : Nat) (r : List Nat) : List Nat → List Nat × List (List Nat) → Ro (List Nat × List (List Nat))
  | [], s => .on s
  | one :: ws, s => if one = b then .out r else if one ∈ s.1 then ringOnes b r ws s else ringOnes b r ws (s.1 ++ [one], s.2 ++ [r ++ [one]])
def Ro.bind {α β : Type} (x : Ro α) (f : α → Ro β) : Ro β := match x with | .out r => .out r | .on s => f s
def ringRows (p : Pl) (b : Nat) : List (List Nat) → List Nat × List (List Nat) → Ro (List Nat × List (List Nat))
  | [], s => .on s
  | r :: rs, s => (ringOnes b r (wantsOf p (r.getLastD 0)) s).bind (ringRows p b rs)
theorem ringRows_cons {p : Pl} {b : Nat} {r : List Nat} {rs : List (List Nat)} {s : List Nat × List (List Nat)} : ringRows p b (r :: rs) s = (ringOnes b r (wantsOf p (r.getLastD 0)) s).bind (ringRows p b rs) := rfl
theorem ringOnes_cons {b one : Nat} {r ws : List Nat} {s : List Nat × List (List Nat)} : ringOnes b r (one :: ws) s = if one = b then .out r else if one ∈ s.1 then ringOnes b r ws s else ringOnes b r ws (s.1 ++ [one], s.2 ++ [r ++ [one]]) := rfl
def ringLv (p : Pl) (b : Nat) : Nat → List (List Nat) × List Nat → Option (List Nat)
  | 0, _ => none
  | k + 1, s => if s.1 = [] then none else match ringRows p b s.1 (s.2, []) with
    | .out r => some r
    | .on s' => ringLv p b k (s'.2, s'.1)
def ringF (p : Pl) (b : Nat) : Option (List Nat) := ringLv p b (p.length + 2) ([[b]], [])
def keyD (l : List Nat) : List (Int × PyData) := l.map fun (i : Nat) => ((i : Int), PyData.bool true)
theorem keyD_len (l : List Nat) : (keyD l).length = l.length := List.length_map _
theorem keyD_keys (l : List Nat) : (keyD l).map (·.1) = iz l := by simp [keyD, iz]
theorem keyD_look {l : List Nat} {z : Nat} : (lookI (keyD l) (z : Int)).isSome = decide (z ∈ l) := by
  induction l with
  | nil => rfl
  | cons a l ih =>
    unfold lookI keyD at *
    rw [List.map_cons, List.find?_cons]
    by_cases h : a = z
    · subst h
      simp
    · rw [show decide (((a : Int), PyData.bool true).1 = (z : Int)) = false from decide_eq_false fun e => h (by have : (a : Int) = z := e; omega)]
      rw [ih]
      simp [List.mem_cons, Ne.symm h]
theorem keyD_put {l : List Nat} {z : Nat} (h : z ∉ l) : putI (keyD l) (z : Int) (.bool true) = keyD (l ++ [z]) := by
  rw [putI_new (by rw [keyD_keys]; exact fun hh => h (iz_mem.mp hh))]
  simp [keyD]
/-- how a row stands -/
def WayS (p : Pl) (k : Nat) (r : List Nat) : Prop := ∃ (r0 : List Nat) (x : Nat), r = r0 ++ [x] ∧ x < p.length ∧ r0.length ≤ k
theorem WayS.up {p : Pl} {k k2 : Nat} {r : List Nat} (h : WayS p k r) (l : k ≤ k2) : WayS p k2 r := by
  obtain ⟨r0, x, a, b, c⟩ := h
  exact ⟨r0, x, a, b, Nat.le_trans c l⟩
theorem nodup_ltN {n : Nat} {l : List Nat} (h : l.Nodup) (hl : ∀ x ∈ l, x < n) : l.length ≤ n := by
  have := nodup_lt n (iz l) (List.Pairwise.map _ (fun a b z => fun e => z (by omega)) h) fun k hk => by
    obtain ⟨x, rfl, hx⟩ := iz_ex hk
    have := hl x hx
    omega
  rwa [iz_len] at this
theorem drop_some {α : Type} {l : List α} {i : Nat} {x : α} (h : l[i]? = some x) : l.drop i = x :: l.drop (i + 1) := by
  obtain ⟨h1, rfl⟩ := List.getElem?_eq_some_iff.mp h
  exact List.drop_eq_getElem_cons h1
section
variable {P : Program} {w : World} {K : PySem.W.Frag} {mg : Str → Option Value} {base : Heap}
def optD (o : Option (List Nat)) : PyData := match o with | none => .none | some r => rowD r
def pRingS (ds : List PyData) : Prop := ∃ (p : Pl) (b : Nat), ds = [planD p, .int (b : Int)] ∧ Sound p ∧ b < p.length
def tRingS (ds : List PyData) (r : Rt) : Prop := ∀ (p : Pl) (b : Nat), ds = [planD p, .int (b : Int)] → r = .d (optD (ringF p b))
theorem ok_ring_fromS (D : Df K mg "ring_from" s_ring_from ["plan", "begin"]) (B : Bn mg) : Cal P w K mg base 1 "ring_from" (spP K 2 pRingS tRingS) := by
  have nd := sc_ring_from.nd
  refine calP D sc_ring_from rfl fun f cdv A outer st H E hr => ⟨_, (pss_cons (ps_set (i := 2) nd rfl (Or.inl rfl) (pe_lst (pa_cons (pe_lst (pa_cons (pv 1) pa_nil)) pa_nil)))
      (pss_cons (ps_set (i := 3) nd rfl (Or.inl rfl) pe_dnewK)
      (pss_cons (ps_while PassesOwn.never (pt_cmpR (Kk.op_neD (K := K) hr.units) (pv 2) (pe_lst pa_nil) (nomark _)) (pss_cons (ps_set (i := 4) nd rfl (Or.inl rfl) (pe_lst pa_nil))
      (pss_cons (ps_for PassesOwn.never rfl (Kk.pi_list (K := K) (pv 2)) (pg_name (i := 5) nd rfl (Or.inl rfl)) (pss_one (ps_for PassesOwn.never rfl (Kk.pi_tup (K := K) (pe_ix (Kk.ix_tup (K := K)) (pe_ix (Kk.ix_tup (K := K)) (pv 0) (pe_ix (Kk.ix_list (K := K)) (pv 5) (pe_un un_neg pe_int) (fun _ _ => rfl)) (fun _ _ => rfl)) pe_int (fun _ _ => rfl))) (pg_name (i := 6) nd rfl (Or.inl rfl)) (pss_cons (ps_if (pt_cmpR op_eq (pv 6) (pv 1) (nomark _)) (pss_one (ps_ret (pv 5))) pss_nil)
      (pss_one (ps_if (pt_cmp (pc_dnotin (Kk.hu hr) (pv 6) (pv 3))) (pss_cons (ps_dput (Kk.hu hr) (pv 3) (pv 6) pe_bl rfl)
      (pss_one (ps_expr (Kk.pe_bm (K := K) PySem.F.plainAttrs_list PySem.F.slot_list_append PySem.F.type_list_append mt_append (pv 4) (pa_cons (pe_op (Kk.op_catS (K := K)) (pv 5) (pe_lst (pa_cons (pv 6) pa_nil))) pa_nil))))) pss_nil))))))
      (pss_one (ps_set (i := 2) nd rfl (Or.inl rfl) (pv 4))))))
      (pss_one (ps_ret pe_non))))), fun ds hn hp => ?_⟩
  obtain ⟨p, b, rfl, hg, hb⟩ := hp
  have hlen := hg.few
  have fin : ∀ {o : Option (List Nat)}, o = ringF p b → tRingS [planD p, .int (b : Int)] (.d (optD o)) := fun {o} e p' b' z => by
    simp only [List.cons.injEq, PyData.int.injEq, and_true] at z
    have e1 := planD_inj z.1
    have e2 : b = b' := by omega
    subst e1 e2
    rw [e]
  show ExS K _ _ [.pu (planD p), .pu (.int b), .non, .non, .non, .non, .non]
  fail "kr"
  refine xs_while (fun m δ' => ∃ rs ks x5 x6, δ' = [.pu (planD p), .pu (.int b), .ow (RL K (rowsD rs)), .ow (RDk K (keyD ks)), .non, x5, x6] ∧ ringLv p b m (rs, ks) = ringF p b ∧ (rs ≠ [] → p.length - ks.length + 1 ≤ m) ∧ (∀ r ∈ rs, WayS p ks.length r) ∧ ks.Nodup ∧ (∀ x ∈ ks, x < p.length) ∧ rs.length ≤ ks.length + 1) (p.length + 2) ⟨[[b]], [], .non, .non, rfl, rfl, fun _ => by simp, ?_, List.nodup_nil, (fun k hk => nomatch hk), Nat.le_refl _⟩ ?_
  · intro r hr
    rw [List.mem_singleton.mp hr]
    exact ⟨[], b, rfl, hb, Nat.le_refl _⟩
  · rintro m _ ⟨rs, ks, x5, x6, rfl, hres, hm, hway, hnd, hlt, hrs⟩
    fail "kr"
    refine ⟨(okD_rows rs).shaped (by decide), ?_⟩
    cases rs with
    | nil => 
      fail "kr"
      refine rt_d (fin (o := none) ?_)
      rw [← hres]
      cases m with
      | zero => rfl
      | succ m => simp [ringLv]
    | cons ra rs =>
      have hm := hm (List.cons_ne_nil _ _)
      obtain ⟨m, rfl⟩ : ∃ m', m = m' + 1 := ⟨m - 1, by omega⟩
      have hne : (ra :: rs) ≠ [] := List.cons_ne_nil _ _
      fail "kr"
      refine xs_frz (j := 2) rfl ?_
      generalize ra :: rs = rows at hway hrs hres hne
      have hk12 := nodup_ltN hnd hlt
      unfold ringLv at hres
      rw [if_neg hne] at hres
      dsimp only at hres
      fail "kr"
      refine xs_forL (ed_of (ev_pu rfl ⟨_, frz_pu, _, rfl, fun i δ' => ∃ fur ks2 x5 x6, δ' = [.pu (planD p), .pu (.int b), .pu (.list (rowsD rows)), .ow (RDk K (keyD ks2)), .ow (RL K (rowsD fur)), x5, x6] ∧ ringRows p b rows (ks, []) = ringRows p b (rows.drop i) (ks2, fur) ∧ ks2.length = ks.length + fur.length ∧ (∀ r ∈ fur, WayS p ks2.length r) ∧ ks2.Nodup ∧ (∀ x ∈ ks2, x < p.length), ⟨[], ks, x5, x6, rfl, rfl, rfl, fun _ z => (nomatch z), hnd, hlt⟩, fun i y δ' hy => ?_, fun δ' => ?_⟩))
      · rintro ⟨fur, ks2, x5, x6, rfl, hrr, hkk, hfur, hnd2, hlt2⟩
        rw [rowsD, List.getElem?_map] at hy
        cases hr2 : rows[i]? with
        | none => rw [hr2] at hy; cases hy
        | some r =>
        rw [hr2] at hy
        cases hy
        rw [drop_some hr2] at hrr
        obtain ⟨r0, x, rfl, hx, hr0⟩ := hway r (List.mem_of_getElem? hr2)
        obtain ⟨s, hs, hat⟩ := atI_plan hx
        rw [ringRows_cons, show (r0 ++ [x]).getLastD 0 = x by simp, wantsOf_some hs] at hrr
        refine turn1_name (Nat.le_of_ble_eq_true rfl) ?_
        fail "kr"
        refine xs_forT ?_
        fail "kr"
        refine ⟨_, _, _, den_pu, rfl, atI_last, _, _, _, rfl, rfl, hat, ?_⟩
        fail "kr"
        refine ⟨fun j δ' => ∃ fur ks2 x6, δ' = [.pu (planD p), .pu (.int b), .pu (.list (rowsD rows)), .ow (RDk K (keyD ks2)), .ow (RL K (rowsD fur)), .pu (rowD (r0 ++ [x])), x6] ∧ ringRows p b rows (ks, []) = (ringOnes b (r0 ++ [x]) (s.wants.drop j) (ks2, fur)).bind (ringRows p b (rows.drop (i + 1))) ∧ ks2.length = ks.length + fur.length ∧ (∀ r ∈ fur, WayS p ks2.length r) ∧ ks2.Nodup ∧ (∀ x ∈ ks2, x < p.length), ⟨fur, ks2, x6, rfl, hrr, hkk, hfur, hnd2, hlt2⟩, fun j y δ' hy => ?_, fun δ' => ?_⟩
        · rintro ⟨fur, ks2, x6, rfl, hrr, hkk, hfur, hnd2, hlt2⟩
          rw [List.getElem?_map, iz, List.getElem?_map] at hy
          cases hz : s.wants[j]? with
          | none => rw [hz] at hy; cases hy
          | some z =>
          rw [hz] at hy
          cases hy
          rw [drop_some hz] at hrr
          have hzw : z ∈ wantsOf p x := by rw [wantsOf_some hs]; exact List.mem_of_getElem? hz
          have hzl := hg.wants_lt hzw
          have h12 := nodup_ltN hnd2 hlt2
          refine turn1_name (Nat.le_of_ble_eq_true rfl) ?_
          fail "kr"
          rw [ringOnes_cons] at hrr
          refine ifB (fun h1 => ?_) (fun h1 => ?_)
          · rw [if_pos (by have := of_decide_eq_true h1; omega)] at hrr
            fail "kr"
            refine rt_d (fin (o := some (r0 ++ [x])) ?_)
            rw [← hres, hrr]
            rfl
          rw [if_neg (by have := of_decide_eq_false h1; omega)] at hrr
          fail "kr"
          refine ifB (fun hn => ?_) (fun hn => ?_)
          · rw [keyD_look] at hn
            have hzk : z ∉ ks2 := fun hh => by rw [decide_eq_true hh] at hn; cases hn
            rw [if_neg hzk] at hrr
            fail "kr"
            refine ⟨by rw [keyD_len]; omega, ?_⟩
            rw [keyD_put hzk]
            fail "kr"
            refine ⟨_, _, den_pu, den_ow, ?_⟩
            refine ⟨?_, ?_⟩
            · simp [iz]
              omega
            fail "kr"
            refine ⟨by rw [rowsD_len]; omega, ?_⟩
            fail "kr"
            refine ⟨fur ++ [r0 ++ [x] ++ [z]], ks2 ++ [z], .pu (.int (z : Int)), ?_, hrr, ?_, ?_, ?_, ?_⟩
            · simp [rowsD, rowD, iz]
            · rw [List.length_append, List.length_append, hkk]
              simp
              omega
            · intro r hr
              rcases List.mem_append.mp hr with hr | hr
              · exact (hfur r hr).up (by rw [List.length_append]; omega)
              · rw [List.mem_singleton.mp hr]
                refine ⟨r0 ++ [x], z, rfl, hzl, ?_⟩
                rw [List.length_append, List.length_append]
                simp
                omega
            · rw [List.nodup_append]
              refine ⟨hnd2, List.nodup_cons.mpr ⟨by simp, List.nodup_nil⟩, fun a ha b hb e => ?_⟩
              rw [List.mem_singleton.mp hb] at e
              exact hzk (e ▸ ha)
            · intro a ha
              rcases List.mem_append.mp ha with ha | ha
              · exact hlt2 a ha
              · rw [List.mem_singleton.mp ha]
                exact hzl
          · rw [keyD_look] at hn
            have hzk : z ∈ ks2 := Classical.byContradiction fun hh => by rw [decide_eq_false hh] at hn; cases hn
            rw [if_pos hzk] at hrr
            fail "kr"
            exact ⟨fur, ks2, _, rfl, hrr, hkk, hfur, hnd2, hlt2⟩
        · rintro ⟨fur, ks2, x6, rfl, hrr, hkk, hfur, hnd2, hlt2⟩
          rw [List.drop_eq_nil_of_le (by simp [iz])] at hrr
          exact ⟨fur, ks2, _, x6, rfl, hrr, hkk, hfur, hnd2, hlt2⟩
      · rintro ⟨fur, ks2, x5, x6, rfl, hrr, hkk, hfur, hnd2, hlt2⟩
        rw [List.drop_eq_nil_of_le (by simp [rowsD])] at hrr
        rw [hrr] at hres
        fail "kr"
        refine ⟨m, by omega, fur, ks2, x5, x6, rfl, hres, fun hf => ?_, hfur, hnd2, hlt2, by omega⟩
        have h0 : 0 < fur.length := List.length_pos_iff.mpr hf
        have := nodup_ltN hnd2 hlt2
        omega
end
end Kr

namespace Kr
open PySem PySem.Spec PyProof.Rows L2 Dl
open Evl (Ex)
/-! ### the first ring; what need_plan raises -/
def lenD (r : List Nat) : PyData := .tuple [.int (r.length : Int), rowD r]
def betterR (r : List Nat) (o : Option (List Nat)) : Bool := match o with | none => true | some q => PySem.W.dataLt (lenD r) (lenD q)
def bestR (p : Pl) (best : Option (List Nat)) (i : Nat) : Option (List Nat) := match ringF p i with | none => best | some r => if betterR r best = true then some r else best
def firstR (p : Pl) : Option (List Nat) := (List.range p.length).foldl (bestR p) none
theorem alike_ints : ∀ (a b : List Int), PySem.W.alikeAll (a.map PyData.int) (b.map PyData.int) = true
  | [], b => by cases b <;> rfl
  | _ :: _, [] => rfl
  | x :: a, y :: b => by
    show (PySem.W.alike (.int x) (.int y) && PySem.W.alikeAll (a.map PyData.int) (b.map PyData.int)) = true
    rw [alike_ints a b]
    rfl
theorem alike_lenD (r q : List Nat) : PySem.W.alike (lenD r) (lenD q) = true := by
  show (PySem.W.alike (.int (r.length : Int)) (.int (q.length : Int)) && (PySem.W.alike (rowD r) (rowD q) && PySem.W.alikeAll [] [])) = true
  have : PySem.W.alike (rowD r) (rowD q) = true := alike_ints _ _
  rw [this]
  rfl
theorem depth_lenD (r : List Nat) : (lenD r).depth ≤ 2 := by
  have := (okD_tuple (n := 1) (ds := [.int (r.length : Int), rowD r]) fun x hx => by
    rcases List.mem_cons.mp hx with rfl | hx
    · exact okD_int.up (Nat.zero_le _)
    · rw [List.mem_singleton.mp hx]
      exact okD_ints _).2
  exact this
section
variable {P : Program} {w : World} {K : PySem.W.Frag} {mg : Str → Option Value} {base : Heap}
def pSound (ds : List PyData) : Prop := ∃ (p : Pl), ds = [planD p] ∧ Sound p
def tFirst (ds : List PyData) (r : Rt) : Prop := ∀ (p : Pl), ds = [planD p] → r = .d (optD (firstR p))
theorem ok_first_ringS (D : Df K mg "first_ring" s_first_ring ["plan"]) (B : Bn mg) (c_ring_from : Cal P w K mg base 1 "ring_from" (spP K 2 pRingS tRingS)) : Cal P w K mg base 2 "first_ring" (spP K 1 pSound tFirst) := by
  have nd := sc_first_ring.nd
  refine calP D sc_first_ring rfl fun f cdv A outer st H E hr => ⟨_, (pss_cons (ps_set (i := 1) nd rfl (Or.inl rfl) pe_non)
      (pss_cons (ps_for PassesOwn.never rfl (pi_range1 (by rfl) B.range (pa_cons (pe_callB (Kk.call_len_seq (K := K)) (by rfl) B.len (by decide +kernel) (pa_cons (pv 0) pa_nil)) pa_nil)) (pg_name (i := 2) nd rfl (Or.inl rfl)) (pss_cons (ps_set (i := 3) nd rfl (Or.inl rfl) (Dl.pe_c c_ring_from hr (pa_cons (pv 0) (pa_cons (pv 2) pa_nil))))
      (pss_one (ps_if (PW.pt (pw_and (pt_cmp (pc_notN (pv 3))) (pw_and1 (PW.pt (pw_or (pt_cmp (pc_isN (pv 1))) (pw_or1 (pt_cmpR (Kk.op_ltD (K := K) hr.units) (pe_tup (pa_cons (pe_callB (Kk.call_len_seq (K := K)) (by rfl) B.len (by decide +kernel) (pa_cons (pv 3) pa_nil)) (pa_cons (pv 3) pa_nil))) (pe_tup (pa_cons (pe_callB (Kk.call_len_seq (K := K)) (by rfl) B.len (by decide +kernel) (pa_cons (pv 1) pa_nil)) (pa_cons (pv 1) pa_nil))) (nomark _)))))))) (pss_one (ps_set (i := 1) nd rfl (Or.inl rfl) (pv 3))) pss_nil))))
      (pss_one (ps_ret (pv 1))))), fun ds hn hp => ?_⟩
  obtain ⟨p, rfl, hg⟩ := hp
  have hlen := hg.few
  show ExS K _ _ [.pu (planD p), .non, .non, .non]
  fail "kr"
  refine xs_forR1 ?_
  fail "kr"
  rw [planD_len]
  refine ⟨by omega, by omega, fun i δ' => ∃ o x2 x3, δ' = [.pu (planD p), .pu (optD o), x2, x3] ∧ firstR p = ((List.range p.length).drop i).foldl (bestR p) o, ⟨none, _, _, rfl, rfl⟩, fun i δ' hi => ?_, fun δ' => ?_⟩
  · rintro ⟨o, x2, x3, rfl, ho⟩
    rw [drop_some (List.getElem?_range (show i < p.length by omega)), List.foldl_cons] at ho
    refine turn1_name (Nat.le_of_ble_eq_true rfl) ?_
    fail "kr"
    refine ev_call ?_
    fail "kr"
    refine ⟨rfl, ⟨p, i, rfl, hg, by omega⟩, fun r hr => ?_⟩
    rw [hr p i rfl]
    unfold bestR at ho
    cases hq : ringF p i with
    | none =>
      rw [hq] at ho
      refine ⟨Nat.le_of_ble_eq_true rfl, _, rfl, ?_⟩
      show ExS K _ _ [.pu (planD p), .pu (optD o), .pu (.int i), .pu .none]
      fail "kr"
      exact ⟨o, _, _, rfl, ho⟩
    | some r =>
      rw [hq] at ho
      refine ⟨Nat.le_of_ble_eq_true rfl, _, rfl, ?_⟩
      show ExS K _ _ [.pu (planD p), .pu (optD o), .pu (.int i), .pu (rowD r)]
      fail "kr"
      cases o with
      | none =>
        fail "kr"
        exact ⟨some r, _, _, rfl, ho⟩
      | some q =>
        refine ifF rfl ?_
        show EvT K _ [.pu (planD p), .pu (rowD q), .pu (.int i), .pu (rowD r)] _
        fail "kr"
        have el : ∀ r : List Nat, (PyData.tuple [.int (((iz r).map PyData.int).length : Int), rowD r]) = lenD r := fun r => by
          rw [List.length_map, iz_len]; rfl
        rw [el, el]
        refine ⟨alike_lenD r q, (fun z => nomatch z), Nat.le_trans (Nat.min_le_left _ _) (Nat.le_trans (depth_lenD r) (by decide)), _, rfl, ?_⟩
        have ho : firstR p = List.foldl (bestR p) (if PySem.W.dataLt (lenD r) (lenD q) = true then some r else some q) (List.drop (i + 1) (List.range p.length)) := ho
        refine ifB (fun h => ?_) (fun h => ?_)
        · rw [if_pos h] at ho
          fail "kr"
          exact ⟨some r, _, _, rfl, ho⟩
        · rw [if_neg (by rw [h]; decide)] at ho
          fail "kr"
          exact ⟨some q, _, _, rfl, ho⟩
  · rintro ⟨o, x2, x3, rfl, ho⟩
    fail "kr"
    refine rt_d fun p' e => ?_
    simp only [List.cons.injEq, and_true] at e
    rw [← planD_inj e, ho, List.drop_eq_nil_of_le (by simp)]
    rfl
end
end Kr

namespace Kr
open PySem PySem.Spec PyProof.Rows L2 Dl
open Evl (Ex)
/-! ### need_plan of anything -/
def firstBad (ss : List PyData) : Option Nat := (List.range ss.length).find? fun i => !svcB ss.length i (ss.getD i .none)
def servD : PyData → Option Xc
  | .tuple ss => if 1 ≤ ss.length ∧ ss.length ≤ 12 then (firstBad ss).map fun (i : Nat) => Xc.plan (.int (i : Int)) else some (.plan (.int (-1)))
  | _ => some (.plan (.int (-1)))
/-- data that a plan may be asked of -/
def okPlan (d : PyData) : Prop := ∀ ss, d = .tuple ss → ss.length ≤ 12 → ∀ s ∈ ss, okSvc s
theorem xp_f {K : PySem.W.Frag} {Z : XA} {x : Xc} {f : Str} {z : PyData} (h : xcF x = some (f, z)) : ∀ (B : Hp) (H : Hp) (dd : Addr) (v : V), H dd = some (.xd [(f, v)]) → Dp K B v z → B dd = none → xp K Z x B H (.ref (xcAt Z x)) (some dd) := fun B H dd v h1 h2 h3 => ⟨rfl, .inr ⟨f, z, dd, v, h, rfl, h1, h2, h3⟩⟩
theorem find_go {n i : Nat} {p : Nat → Bool} (hi : i < n) (h : ∀ j, j < i → p j = false) (hp : p i = true) : (List.range n).find? p = some i := by
  rw [List.find?_range_eq_some]
  exact ⟨hp, List.mem_range.mpr hi, fun j hj => by rw [h j hj]; rfl⟩
section
variable {P : Program} {w : World} {K : PySem.W.Frag} {mg : Str → Option Value} {base : Heap} {Z : XA}
def pPlanX (ds : List PyData) : Prop := ∃ d, ds = [d] ∧ okPlan d ∧ ∀ kv, d ≠ .dict kv
def tNeed (g : PyData → Option Xc) (ds : List PyData) (r : Rt) : Prop := ∀ d, ds = [d] → g d = none ∧ r = .d .none
def rNeed (K : PySem.W.Frag) (Z : XA) (g : PyData → Option Xc) (ds : List PyData) (p : XP) : Prop := ∃ d x, ds = [d] ∧ g d = some x ∧ p = xp K Z x
theorem ok_need_servicesX (D : Df K mg "need_services" s_need_services ["plan"]) (B : Bn mg) (hB : Cst K mg "MOST_SERVICES" (.int 12)) (x_BadPlan : Xr.XTxt P w K mg base "BadPlan" "number" Z.plan) (c_is_service : Cal P w K mg base 2 "is_service" (spP K 3 pSvcX tSvcX)) : CalX P w K mg base 3 "need_services" (spX K 1 pPlanX (tNeed servD) (rNeed K Z servD)) := by
  have nd := sc_need_services.nd
  obtain ⟨vM, uM, hmM, rM, dM⟩ := hB.ex
  have g_MOST_SERVICES : ∃ u, mg "MOST_SERVICES" = some u ∧ RelV vM u := ⟨uM, hmM, rM⟩
  refine calX D sc_need_services rfl fun f cdv A outer st H E hr => ⟨_, (pss_cons (ps_if (PW.pt (pw_or (pt_not (pt_val (pe_callB (Kk.call_isi (K := K)) (by rfl) B.isinstance (by decide +kernel) (pa_cons (pv 0) (pa_cons (pe_bltn (v := .ty "tuple") (u := .type "tuple") (by rfl) B.tuple (by decide +kernel) rfl) pa_nil))))) (pw_or1 (pt_not (pt_chain op_le op_le pe_int (pe_callB (Kk.call_len_seq (K := K)) (by rfl) B.len (by decide +kernel) (pa_cons (pv 0) pa_nil)) (C8.pe_gc (by rfl) g_MOST_SERVICES)))))) (pss_one (Xr.ps_raiseX (W := fun cls d _ H => E cls d H) x_BadPlan rfl (takes_of rfl rfl rfl rfl) (hr.mono (by decide)) (pa_cons (pe_un un_neg pe_int) pa_nil) (by rfl))) pss_nil)
      (pss_one (ps_for (passes_of rfl) rfl (Kk.pi_enumT (K := K) (by rfl) B.enumerate (pa_cons (pv 0) pa_nil)) (Kk.pg_tup (K := K) (n := 2) (by rfl) (pgs_cons (pg_name (i := 1) nd rfl (Or.inl rfl)) (pgs_cons (pg_name (i := 2) nd rfl (Or.inl rfl)) pgs_nil))) (pss_one (ps_if (pt_not (pt_val (Dl.pe_c c_is_service hr (pa_cons (pv 2) (pa_cons (pe_callB (Kk.call_len_seq (K := K)) (by rfl) B.len (by decide +kernel) (pa_cons (pv 0) pa_nil)) (pa_cons (pv 1) pa_nil)))))) (pss_one (Xr.ps_raiseX (W := fun cls d _ H => E cls d H) x_BadPlan rfl (takes_of rfl rfl rfl rfl) (hr.mono (by decide)) (pa_cons (pv 1) pa_nil) (by rfl))) pss_nil))))), fun ds hn hp => ?_⟩
  obtain ⟨d, rfl, hk, hdk⟩ := hp
  show ExS K _ _ [.pu d, .non, .non]
  fail "kr"
  have bad : servD d = some (.plan (.int (-1))) → rNeed K Z servD [d] (xp K Z (.plan (.int (-1)))) := fun h => ⟨d, _, rfl, h, rfl⟩
  cases ht : isTup d with
  | false =>
    have e : servD d = some (.plan (.int (-1))) := by
      cases d with
      | tuple _ => cases ht
      | _ => rfl
    fail "kr"
    exact ⟨_, _, rfl, ⟨rfl, bad e⟩, xp_f rfl⟩
  | true =>
  obtain ⟨ss, rfl⟩ : ∃ ws, d = .tuple ws := by
    cases d with
    | tuple ws => exact ⟨ws, rfl⟩
    | _ => cases ht
  fail "kr"
  have out : ¬ (1 ≤ ss.length ∧ ss.length ≤ 12) → servD (.tuple ss) = some (.plan (.int (-1))) := fun h => if_neg h
  by_cases h1 : 1 ≤ ss.length
  case neg =>
    rw [decide_eq_false (show ¬ ((1 : Int) ≤ (ss.length : Int)) by omega)]
    fail "kr"
    exact ⟨_, _, rfl, ⟨rfl, bad (out fun z => h1 z.1)⟩, xp_f rfl⟩
  rw [decide_eq_true (show ((1 : Int) ≤ (ss.length : Int)) by omega)]
  fail "kr"
  by_cases h2 : ss.length ≤ 12
  case neg =>
    rw [decide_eq_false (show ¬ ((ss.length : Int) ≤ 12) by omega)]
    fail "kr"
    exact ⟨_, _, rfl, ⟨rfl, bad (out fun z => h2 z.2)⟩, xp_f rfl⟩
  rw [decide_eq_true (show ((ss.length : Int) ≤ 12) by omega)]
  have ein : servD (.tuple ss) = (firstBad ss).map fun (i : Nat) => Xc.plan (.int (i : Int)) := if_pos ⟨h1, h2⟩
  fail "kr"
  refine xs_forET ?_
  fail "kr"
  refine ⟨fun i δ' => ∃ x1 x2, δ' = [.pu (.tuple ss), x1, x2] ∧ ∀ j, j < i → svcB ss.length j (ss.getD j .none) = true, ⟨_, _, rfl, fun j hj => absurd hj (Nat.not_lt_zero _)⟩, fun i y δ' hy => ?_, fun δ' => ?_⟩
  · rintro ⟨x1, x2, rfl, hall⟩
    have hil : i < ss.length := (List.getElem?_eq_some_iff.mp hy).1
    have hgd : ss.getD i .none = y := by rw [List.getD_eq_getElem?_getD, hy]; rfl
    refine turn1 tg_tup2 ?_ ?_
    · exact tgl2 (Nat.le_of_ble_eq_true rfl) (Nat.le_of_ble_eq_true rfl)
    show ExS K _ _ [.pu (.tuple ss), .pu (.int i), .pu y]
    fail "kr"
    refine ev_call ?_
    fail "kr"
    refine ⟨rfl, ⟨y, ss.length, i, rfl, hk ss rfl h2 y (List.mem_of_getElem? hy), h2⟩, fun r hr => ?_⟩
    cases (show r = .d _ from hr _ _ _ rfl)
    fail "kr"
    cases hs : svcB ss.length i y with
    | false =>
      fail "kr"
      refine ⟨_, _, rfl, ⟨rfl, .tuple ss, .plan (.int (i : Int)), rfl, ?_, rfl⟩, xp_f rfl⟩
      rw [ein, show firstBad ss = some i from find_go hil (fun j hj => by rw [hall j hj]; rfl) (by rw [hgd, hs]; rfl)]
      rfl
    | true =>
      fail "kr"
      refine ⟨_, _, rfl, fun j hj => ?_⟩
      rcases Nat.lt_succ_iff_lt_or_eq.mp hj with h | h
      · exact hall j h
      · subst h
        rw [hgd, hs]
  · rintro ⟨x1, x2, rfl, hall⟩
    fail "kr"
    intro d' e
    cases e
    refine ⟨?_, rfl⟩
    rw [ein, show firstBad ss = none from by
      unfold firstBad
      rw [List.find?_eq_none]
      intro j hj
      rw [hall j (List.mem_range.mp hj)]
      decide]
    rfl
end
end Kr

namespace Kr
open PySem PySem.Spec PyProof.Rows L2 Dl
open Evl (Ex)
/-! ### how long a ring is at the most -/
theorem ones_out {b : Nat} {r q : List Nat} : ∀ {ws : List Nat} {s : List Nat × List (List Nat)}, ringOnes b r ws s = .out q → q = r
  | [], s, h => by cases h
  | one :: ws, s, h => by
    rw [ringOnes_cons] at h
    split at h
    · cases h; rfl
    · split at h
      · exact ones_out h
      · exact ones_out h
theorem ones_on {b L : Nat} {r : List Nat} (hr : r.length ≤ L) : ∀ {ws : List Nat} {s s2 : List Nat × List (List Nat)}, ringOnes b r ws s = .on s2 → (∀ q ∈ s.2, q.length ≤ L + 1) → ∀ q ∈ s2.2, q.length ≤ L + 1
  | [], s, _, h, hs => by cases h; exact hs
  | one :: ws, s, _, h, hs => by
    rw [ringOnes_cons] at h
    split at h
    · cases h
    · split at h
      · exact ones_on hr h hs
      · refine ones_on hr h fun q hq => ?_
        rcases List.mem_append.mp hq with hq | hq
        · exact hs q hq
        · rw [List.mem_singleton.mp hq, List.length_append, List.length_singleton]
          omega
theorem rows_out {p : Pl} {b : Nat} {q : List Nat} : ∀ {rs : List (List Nat)} {s : List Nat × List (List Nat)}, ringRows p b rs s = .out q → q ∈ rs
  | [], s, h => by cases h
  | r :: rs, s, h => by
    rw [ringRows_cons] at h
    cases ho : ringOnes b r (wantsOf p (r.getLastD 0)) s with
    | out z =>
      rw [ho] at h
      have h : Ro.out z = Ro.out q := h
      cases h
      rw [ones_out ho]
      exact List.mem_cons_self ..
    | on z =>
      rw [ho] at h
      exact List.mem_cons_of_mem _ (rows_out h)
theorem rows_on {p : Pl} {b L : Nat} : ∀ {rs : List (List Nat)} {s s2 : List Nat × List (List Nat)}, ringRows p b rs s = .on s2 → (∀ q ∈ rs, q.length ≤ L) → (∀ q ∈ s.2, q.length ≤ L + 1) → ∀ q ∈ s2.2, q.length ≤ L + 1
  | [], s, _, h, _, hs => by cases h; exact hs
  | r :: rs, s, _, h, hr, hs => by
    rw [ringRows_cons] at h
    cases ho : ringOnes b r (wantsOf p (r.getLastD 0)) s with
    | out z => rw [ho] at h; cases h
    | on z =>
      rw [ho] at h
      exact rows_on h (fun q hq => hr q (List.mem_cons_of_mem _ hq)) (ones_on (hr r (List.mem_cons_self ..)) ho hs)
theorem lv_len {p : Pl} {b : Nat} {q : List Nat} : ∀ {k L : Nat} {s : List (List Nat) × List Nat}, ringLv p b k s = some q → (∀ r ∈ s.1, r.length ≤ L) → q.length ≤ L + k
  | 0, _, _, h, _ => by cases h
  | k + 1, L, s, h, hs => by
    unfold ringLv at h
    split at h
    · cases h
    · cases ho : ringRows p b s.1 (s.2, []) with
      | out z =>
        rw [ho] at h
        have := hs z (rows_out ho)
        cases h
        omega
      | on z =>
        rw [ho] at h
        have := lv_len (L := L + 1) h (rows_on ho hs fun q hq => nomatch hq)
        omega
theorem ringF_len {p : Pl} {b : Nat} {q : List Nat} (h : ringF p b = some q) : q.length ≤ p.length + 3 := by
  have := lv_len (L := 1) h fun r hr => by rw [List.mem_singleton.mp hr]; exact Nat.le_refl _
  omega
theorem best_len {p : Pl} {q : List Nat} : ∀ {is : List Nat} {o : Option (List Nat)}, is.foldl (bestR p) o = some q → (∀ r, o = some r → r.length ≤ p.length + 3) → q.length ≤ p.length + 3
  | [], o, h, ho => ho q h
  | i :: is, o, h, ho => by
    rw [List.foldl_cons] at h
    refine best_len h fun r hr => ?_
    unfold bestR at hr
    cases hq : ringF p i with
    | none => rw [hq] at hr; exact ho r hr
    | some x =>
      rw [hq] at hr
      dsimp only at hr
      split at hr
      · cases hr; exact ringF_len hq
      · exact ho r hr
theorem firstR_len {p : Pl} {q : List Nat} (h : firstR p = some q) : q.length ≤ p.length + 3 := best_len h fun r hr => nomatch hr
def natsD (d : PyData) : List Nat := match d with
  | .tuple ws => ws.map fun x => match x with | .int i => i.toNat | _ => 0
  | _ => []
def intD (d : PyData) : Int := match d with | .int i => i | _ => 0
def unD (d : PyData) : Svc := match d with
  | .tuple [x, a, b, c, e, g] => ⟨natsD x, intD a, intD b, intD c, intD e, intD g⟩
  | _ => ⟨[], 0, 0, 0, 0, 0⟩
theorem natsD_ints (ns : List Nat) : natsD (.tuple ((iz ns).map PyData.int)) = ns := by
  show ((iz ns).map PyData.int).map _ = ns
  induction ns with
  | nil => rfl
  | cons a r ih =>
    show (a : Int).toNat :: _ = a :: r
    rw [Int.toNat_natCast]
    exact congrArg (a :: ·) ih
theorem unD_svc (s : Svc) : unD (svcD s) = s := by
  show (⟨natsD (.tuple ((iz s.wants).map PyData.int)), _, _, _, _, _⟩ : Svc) = s
  rw [natsD_ints]
  rfl
def planU (d : PyData) : Pl := match d with | .tuple ss => ss.map unD | _ => []
theorem planU_plan (p : Pl) : planU (planD p) = p := by
  show (p.map svcD).map unD = p
  rw [List.map_map, show unD ∘ svcD = id from funext unD_svc, List.map_id]
theorem servD_tup (ss : List PyData) : servD (.tuple ss) = if 1 ≤ ss.length ∧ ss.length ≤ 12 then (firstBad ss).map fun (i : Nat) => Xc.plan (.int (i : Int)) else some (.plan (.int (-1))) := rfl
theorem serv_none {d : PyData} (h : servD d = none) : d = planD (planU d) ∧ Sound (planU d) := by
  cases d with
  | tuple ss =>
    rw [servD_tup] at h
    by_cases hl : 1 ≤ ss.length ∧ ss.length ≤ 12
    · rw [if_pos hl] at h
      rw [Option.map_eq_none_iff] at h
      unfold firstBad at h
      rw [List.find?_eq_none] at h
      have hs : ∀ (i : Nat) (x : PyData), ss[i]? = some x → ∃ s, x = svcD s ∧ GoodS ss.length i s := fun i x hx => by
        have hi : i < ss.length := (List.getElem?_eq_some_iff.mp hx).1
        have := h i (List.mem_range.mpr hi)
        rw [List.getD_eq_getElem?_getD, hx] at this
        exact svcB_iff.mp (by simpa using this)
      have e : .tuple ss = planD (planU (.tuple ss)) := by
        show PyData.tuple ss = .tuple ((ss.map unD).map svcD)
        rw [List.map_map]
        refine congrArg PyData.tuple ?_
        refine List.ext_getElem? fun i => ?_
        rw [List.getElem?_map]
        cases hx : ss[i]? with
        | none => rfl
        | some x =>
          obtain ⟨s, rfl, _⟩ := hs i x hx
          show some (svcD s) = some (svcD (unD (svcD s)))
          rw [unD_svc]
      refine ⟨e, ⟨by show 1 ≤ (ss.map unD).length; rw [List.length_map]; exact hl.1, by show (ss.map unD).length ≤ 12; rw [List.length_map]; exact hl.2, fun i s hsv => ?_⟩⟩
      have hsv : (ss.map unD)[i]? = some s := hsv
      rw [List.getElem?_map] at hsv
      cases hx : ss[i]? with
      | none => rw [hx] at hsv; cases hsv
      | some x =>
        rw [hx] at hsv
        obtain ⟨s', rfl, g⟩ := hs i x hx
        have : unD (svcD s') = s := Option.some.inj hsv
        rw [unD_svc] at this
        subst this
        show GoodS (ss.map unD).length i s'
        rw [List.length_map]
        exact g
    · rw [if_neg hl] at h; cases h
  | _ => cases h
theorem serv_good {p : Pl} (h : Sound p) : servD (planD p) = none := by
  unfold planD
  rw [servD_tup, if_pos ⟨by rw [List.length_map]; exact h.one, by rw [List.length_map]; exact h.few⟩]
  rw [Option.map_eq_none_iff]
  unfold firstBad
  rw [List.find?_eq_none]
  intro i hi
  have hi := List.mem_range.mp hi
  rw [List.length_map] at hi
  rw [List.getD_eq_getElem?_getD, List.getElem?_map, List.getElem?_eq_getElem hi, List.length_map]
  show ¬ (!svcB p.length i (svcD p[i])) = true
  rw [svcB_iff.mpr ⟨_, rfl, h.svc i _ (List.getElem?_eq_getElem hi)⟩]
  decide
def ringD (r : List Nat) : PyData := .tuple ((iz r).map PyData.int)
def needD (d : PyData) : Option Xc := match servD d with
  | some x => some x
  | none => (firstR (planU d)).map fun r => Xc.ring (ringD r)
theorem need_none {d : PyData} (h : needD d = none) : d = planD (planU d) ∧ Sound (planU d) ∧ firstR (planU d) = none := by
  unfold needD at h
  cases hs : servD d with
  | some x => rw [hs] at h; cases h
  | none =>
    rw [hs] at h
    obtain ⟨a, b⟩ := serv_none hs
    exact ⟨a, b, Option.map_eq_none_iff.mp h⟩
section
variable {P : Program} {w : World} {K : PySem.W.Frag} {mg : Str → Option Value} {base : Heap} {Z : XA}
theorem ok_need_planX (D : Df K mg "need_plan" s_need_plan ["plan"]) (B : Bn mg) (x_BadRing : Xr.XTxt P w K mg base "BadRing" "ring" Z.ring) (cX_need_services : CalX P w K mg base 3 "need_services" (spX K 1 pPlanX (tNeed servD) (rNeed K Z servD))) (c_first_ring : Cal P w K mg base 2 "first_ring" (spP K 1 pSound tFirst)) : CalX P w K mg base 4 "need_plan" (spX K 1 pPlanX (tNeed needD) (rNeed K Z needD)) := by
  have nd := sc_need_plan.nd
  refine calX D sc_need_plan rfl fun f cdv A outer st H E hr => ⟨_, (pss_cons (ps_expr (Dl.pe_cX cX_need_services hr Dl.passX (pa_cons (pv 0) pa_nil)))
      (pss_cons (ps_set (i := 1) nd rfl (Or.inl rfl) (Dl.pe_c c_first_ring hr (pa_cons (pv 0) pa_nil)))
      (pss_one (ps_if (pt_cmp (pc_notN (pv 1))) (pss_one (Xr.ps_raiseX (W := fun cls d _ H => E cls d H) x_BadRing rfl (takes_of rfl rfl rfl rfl) (hr.mono (by decide)) (pa_cons (Kk.pe_tupleOf (K := K) (by rfl) B.tuple (pv 1)) pa_nil) (by rfl))) pss_nil)))), fun ds hn hp => ?_⟩
  obtain ⟨d, rfl, hk⟩ := hp
  show ExS K _ _ [.pu d, .non]
  fail "kr"
  refine ⟨rfl, ⟨d, rfl, hk⟩, fun r hT => ?_, fun p ⟨d', x, e, hx, hp⟩ => ?_⟩
  · obtain ⟨hs, rfl⟩ := hT d rfl
    obtain ⟨e, hS⟩ := serv_none hs
    fail "kr"
    refine ev_call ?_
    fail "kr"
    refine ⟨rfl, ⟨_, congrArg (fun x => [x]) e, hS⟩, fun r hr => ?_⟩
    cases (show r = .d _ from hr (planU d) (congrArg (fun x => [x]) e))
    fail "kr"
    cases hf : firstR (planU d) with
    | none =>
      refine ifF rfl ?_
      fail "kr"
      intro d' e'
      cases e'
      exact ⟨by unfold needD; rw [hs, hf]; rfl, rfl⟩
    | some r =>
      refine ifT rfl ?_
      show ExS K _ _ [.pu d, .pu (rowD r)]
      fail "kr"
      have hle := firstR_len hf
      have h12 := hS.few
      refine ⟨by rw [List.length_map, iz_len]; omega, _, frz_pu, ?_⟩
      fail "kr"
      refine ⟨_, _, rfl, ⟨rfl, d, .ring (ringD r), rfl, by unfold needD; rw [hs, hf]; rfl, rfl⟩, xp_f rfl⟩
  · cases e
    exact ⟨rfl, d, x, rfl, by unfold needD; rw [hx], hp⟩
end
end Kr

namespace Kr
open PySem PySem.Spec PyProof.Rows L2 Dl
open Evl (Ex)
open TL (tl numL)
/-! ### words of any signs that write numbers -/
def asc (z : Str) : Prop := ∀ c ∈ tl z, c < 128
theorem okD_asc {z : Str} (h : asc z) : okD 0 (.str z) := ⟨by
  show z.cps.all (· < 0x110000) = true
  rw [← Array.all_toList, List.all_eq_true]
  intro c hc
  have := h c hc
  exact decide_eq_true (by omega), Nat.le_refl _⟩
def shapeN (z : Str) : Prop := 1 ≤ z.length ∧ z.length ≤ 3 ∧ (∀ c ∈ tl z, c ∈ figS.cps.toList) ∧ (1 < z.length → (tl z)[0]? ≠ some 48)
theorem fig_iff {c : Nat} : c ∈ figS.cps.toList ↔ 48 ≤ c ∧ c ≤ 57 := by
  have e : figS.cps.toList = [48, 49, 50, 51, 52, 53, 54, 55, 56, 57] := by decide +kernel
  rw [e]
  simp only [List.mem_cons, List.not_mem_nil, or_false]
  omega
theorem numL_two {a b : Nat} (ha : a < 10) (h0 : a ≠ 0) (hb : b < 10) : numL (10 * a + b) = [48 + a, 48 + b] := by
  rw [TL.numL_step (by omega), show (10 * a + b) / 10 = a by omega, show (10 * a + b) % 10 = b by omega, TL.numL_lt ha]
  rfl
theorem numL_three {a b c : Nat} (ha : a < 10) (h0 : a ≠ 0) (hb : b < 10) (hc : c < 10) : numL (10 * (10 * a + b) + c) = [48 + a, 48 + b, 48 + c] := by
  rw [TL.numL_step (by omega), show (10 * (10 * a + b) + c) / 10 = 10 * a + b by omega, show (10 * (10 * a + b) + c) % 10 = c by omega, numL_two ha h0 hb]
  rfl
theorem tl_numW (n : Nat) : tl (numW n) = numL n := tl_numI n
theorem num_of_shape {z : Str} (h : shapeN z) : ∃ n, n < 1000 ∧ z = numW n := by
  obtain ⟨h1, h2, h3, h4⟩ := h
  rw [TL.len_tl] at h1 h2 h4
  have hd : ∀ c ∈ tl z, 48 ≤ c ∧ c ≤ 57 := fun c hc => fig_iff.mp (h3 c hc)
  have fin : ∀ n, n < 1000 → tl z = numL n → ∃ n, n < 1000 ∧ z = numW n := fun n hn e => ⟨n, hn, TL.ext_tl (by rw [tl_numW]; exact e)⟩
  match he : tl z with
  | [] => rw [he] at h1; exact absurd h1 (by decide)
  | [a] =>
    have ha := hd a (by rw [he]; exact List.mem_cons_self ..)
    exact fin (a - 48) (by omega) (by rw [he, TL.numL_lt (by omega), show 48 + (a - 48) = a by omega])
  | [a, b] =>
    have ha := hd a (by rw [he]; exact List.mem_cons_self ..)
    have hb := hd b (by rw [he]; exact List.mem_cons_of_mem _ (List.mem_cons_self ..))
    rw [he] at h4
    have h4 : some a ≠ some 48 := h4 (show 1 < 2 by decide)
    have : a ≠ 48 := fun e => h4 (by rw [e])
    exact fin (10 * (a - 48) + (b - 48)) (by omega) (by rw [he, numL_two (by omega) (by omega) (by omega), show 48 + (a - 48) = a by omega, show 48 + (b - 48) = b by omega])
  | [a, b, c] =>
    have ha := hd a (by rw [he]; exact List.mem_cons_self ..)
    have hb := hd b (by rw [he]; exact List.mem_cons_of_mem _ (List.mem_cons_self ..))
    have hc := hd c (by rw [he]; exact List.mem_cons_of_mem _ (List.mem_cons_of_mem _ (List.mem_cons_self ..)))
    rw [he] at h4
    have h4 : some a ≠ some 48 := h4 (show 1 < 3 by decide)
    have : a ≠ 48 := fun e => h4 (by rw [e])
    exact fin (10 * (10 * (a - 48) + (b - 48)) + (c - 48)) (by omega) (by rw [he, numL_three (by omega) (by omega) (by omega) (by omega), show 48 + (a - 48) = a by omega, show 48 + (b - 48) = b by omega, show 48 + (c - 48) = c by omega])
  | a :: b :: c :: d :: r =>
    rw [he] at h2
    simp only [List.length_cons] at h2
    omega
theorem numL_head3 : ∀ n : Nat, n < 1000 → 1 < (numL n).length → (numL n)[0]? ≠ some 48 := by decide +kernel
theorem shape_num {n : Nat} (h : n < 1000) : shapeN (numW n) := by
  have hl := TL.numL_len (n := n) (k := 3) (by decide) h
  refine ⟨?_, ?_, fun c hc => ?_, fun h1 => ?_⟩
  · rw [TL.len_tl, tl_numW]; exact List.length_pos_iff.mpr (TL.numL_ne n)
  · rw [TL.len_tl, tl_numW]; exact hl
  · rw [tl_numW] at hc
    exact fig_iff.mpr (TL.numL_digits n c hc)
  · rw [TL.len_tl, tl_numW] at h1
    rw [tl_numW]
    exact numL_head3 n h h1
theorem numW_inj3 {n m : Nat} (h : numW n = numW m) : n = m := TL.numL_inj (by rw [← tl_numW, ← tl_numW, h])
theorem numW_int {n : Nat} (h : n < 1000) : PySem.intText? (numW n) = some (n : Int) := TL.int_num (by
  have := TL.numL_len (n := n) (k := 3) (by decide) h
  omega)
/-- the number of a word -/
def numO (z : Str) : Option Nat := (List.range 1000).find? fun n => decide (numW n = z)
theorem numO_num {n : Nat} (h : n < 1000) : numO (numW n) = some n := by
  unfold numO
  rw [List.find?_range_eq_some]
  exact ⟨decide_eq_true rfl, List.mem_range.mpr h, fun j hj => by rw [decide_eq_false (fun e => by have := numW_inj3 e; omega)]; rfl⟩
theorem numO_none {z : Str} (h : ¬ shapeN z) : numO z = none := by
  unfold numO
  rw [List.find?_eq_none]
  intro n hn e
  have := of_decide_eq_true e
  exact h (this ▸ shape_num (List.mem_range.mp hn))
theorem numO_some {z : Str} {n : Nat} (h : numO z = some n) : n < 1000 ∧ z = numW n := by
  unfold numO at h
  rw [List.find?_range_eq_some] at h
  exact ⟨List.mem_range.mp h.2.1, (of_decide_eq_true h.1).symm⟩
def optN (o : Option Nat) : PyData := match o with | none => .none | some n => .int (n : Int)
section
variable {P : Program} {w : World} {K : PySem.W.Frag} {mg : Str → Option Value} {base : Heap}
def pNumX (ds : List PyData) : Prop := ∃ z : Str, ds = [.str z] ∧ z.length ≤ 100000 ∧ asc z
def tNumX (ds : List PyData) (r : Rt) : Prop := ∀ z : Str, ds = [.str z] → r = .d (optN (numO z))
theorem ok_number_ofX (D : Df K mg "number_of" s_number_of ["word"]) (B : Bn mg) (hF : Cst K mg "FIGURES" (.str figS)) : Cal P w K mg base 1 "number_of" (spP K 1 pNumX tNumX) := by
  have nd := sc_number_of.nd
  obtain ⟨vF, uF, hmF, rF, dF⟩ := hF.ex
  have g_FIGURES : ∃ u, mg "FIGURES" = some u ∧ RelV vF u := ⟨uF, hmF, rF⟩
  refine calP D sc_number_of rfl fun f cdv A outer st H E hr => ⟨_, (pss_cons (ps_if (PW.pt (pw_or (pt_not (pt_chain op_le op_le pe_int (pe_callB call_len_str (by rfl) B.len (by decide +kernel) (pa_cons (pv 0) pa_nil)) pe_int)) (pw_or1 (pt_cmpR (Kk.op_neD (K := K) hr.units) (pe_lc (own := [("sign", 1)]) rfl nd (pi_str (pv 0)) (blkOk_by (by kernel_rfl)) (fun _ _ _ _ _ => (pg_name (i := 1) nd rfl (by first | exact Or.inl rfl | exact Or.inr rfl))) (fun _ _ _ _ _ => (pts_one (pt_cmpR op_notIn_sign (pv 1) (C8.pe_gc (by rfl) g_FIGURES) (by rfl)))) (fun _ _ _ _ _ => (pv 1))) (pe_lst pa_nil) (nomark _))))) (pss_one (ps_ret pe_non)) pss_nil)
      (pss_one (ps_ret (pe_ifExp (PW.pt (pw_and (pt_cmpR op_gt (pe_callB call_len_str (by rfl) B.len (by decide +kernel) (pa_cons (pv 0) pa_nil)) pe_int (nomark _)) (pw_and1 (pt_cmpR op_eq (pe_ix ix_str (pv 0) pe_int (fun _ _ => rfl)) pe_str (nomark _))))) pe_non (pe_callTy call_int_str (by rfl) B.int (by decide +kernel) (pa_cons (pv 0) pa_nil)))))), fun ds hn hp => ?_⟩
  obtain ⟨z, rfl, hz, ha⟩ := hp
  have hsz : z.length ≤ sizeLine := by
    have h : sizeLine = 16777216 := rfl
    omega
  have fin : ∀ {o : Option Nat}, o = numO z → tNumX [.str z] (.d (optN o)) := fun {o} e z' e' => by cases e'; rw [e]
  have nope : ¬ shapeN z → tNumX [.str z] (.d .none) := fun h => fin (o := none) (numO_none h).symm
  show ExS K _ _ [.pu (.str z), .non]
  fail "kr"
  refine ⟨hsz, ?_⟩
  fail "kr"
  by_cases h1 : 1 ≤ z.length
  case neg =>
    rw [decide_eq_false (show ¬ ((1 : Int) ≤ (z.length : Int)) by omega)]
    fail "kr"
    exact rt_d (nope fun h => h1 h.1)
  rw [decide_eq_true (show ((1 : Int) ≤ (z.length : Int)) by omega)]
  fail "kr"
  by_cases h2 : z.length ≤ 3
  case neg =>
    rw [decide_eq_false (show ¬ ((z.length : Int) ≤ 3) by omega)]
    fail "kr"
    exact rt_d (nope fun h => h2 h.2.1)
  rw [decide_eq_true (show ((z.length : Int) ≤ 3) by omega)]
  fail "kr"
  refine ev_fS (fun c => !decide (c ∈ figS.cps.toList)) (fun c => .str ⟨#[c]⟩) ?_
  fail "kr"
  refine ⟨wip1 rfl junk_non, Nat.le_of_ble_eq_true rfl, by rw [← TL.len_tl]; omega, fun c hc => ?_, ?_⟩
  · unfold Turn1C
    simp only [List.set_cons_zero, List.set_cons_succ]
    fail "kr"
    refine ⟨rfl, rfl, fun _ => ?_⟩
    fail "kr"
    exact ⟨rfl, rfl⟩
  · refine ⟨_, den_ow, ?_, ?_⟩
    · refine (okD_list (n := 0) fun x hx => ?_).shaped (by decide)
      obtain ⟨c, hc, rfl⟩ := List.mem_map.mp hx
      refine okD_asc fun d hd => ?_
      have : d = c := List.mem_singleton.mp hd
      rw [this]
      exact ha c (List.mem_filter.mp hc).1
    cases hf : z.cps.toList.filter fun c => !decide (c ∈ figS.cps.toList) with
    | cons c r =>
      fail "kr"
      refine rt_d (nope fun h => ?_)
      have hc : c ∈ z.cps.toList.filter fun c => !decide (c ∈ figS.cps.toList) := by rw [hf]; exact List.mem_cons_self ..
      obtain ⟨h3, h4⟩ := List.mem_filter.mp hc
      rw [decide_eq_true (h.2.2.1 c h3)] at h4
      cases h4
    | nil =>
      have hfig : ∀ c ∈ tl z, c ∈ figS.cps.toList := fun c hc => Classical.byContradiction fun h => by
        have : c ∈ z.cps.toList.filter fun c => !decide (c ∈ figS.cps.toList) := List.mem_filter.mpr ⟨hc, by rw [decide_eq_false h]; rfl⟩
        rw [hf] at this
        cases this
      fail "kr"
      refine ⟨hsz, ?_⟩
      fail "kr"
      have go : shapeN z → ∃ n, numO z = some n ∧ PySem.intText? z = some (n : Int) := fun h => by
        obtain ⟨n, hk, e⟩ := num_of_shape h
        rw [e]
        exact ⟨n, numO_num hk, numW_int hk⟩
      refine ifB (fun hl => ?_) (fun hl => ?_)
      · have hl := of_decide_eq_true hl
        cases hc : (tl z)[0]? with
        | none =>
          have := List.getElem?_eq_none_iff.mp hc
          rw [TL.len_tl] at h1
          omega
        | some c =>
          have hat : atI z.cps.toList 0 = some c := atI_nat' (i := 0) hc
          have hs1 : TL.tl (Str.ofString "0") = [48] := by decide +kernel
          fail "kr"
          refine ⟨_, _, c, rfl, rfl, hsz, hat, ?_⟩
          fail "kr"
          by_cases h48 : c = 48
          · subst h48
            rw [decide_eq_true (show (⟨#[48]⟩ : Str) = Str.ofString "0" from TL.ext_tl hs1.symm)]
            fail "kr"
            exact rt_d (nope fun h => h.2.2.2 (by omega) hc)
          · rw [decide_eq_false (show ¬ ((⟨#[c]⟩ : Str) = Str.ofString "0") from fun e => h48 (by
              have e2 : TL.tl (⟨#[c]⟩ : Str) = TL.tl (Str.ofString "0") := by rw [e]
              rw [hs1] at e2
              exact List.head_eq_of_cons_eq e2))]
            fail "kr"
            obtain ⟨n, e1, e2⟩ := go ⟨h1, h2, hfig, fun _ e => h48 (by rw [hc] at e; exact Option.some.inj e)⟩
            exact ⟨_, _, rfl, e2, by omega, rt_d (fin (o := some n) e1.symm)⟩
      · have hl := of_decide_eq_false hl
        fail "kr"
        obtain ⟨n, e1, e2⟩ := go ⟨h1, h2, hfig, fun h => absurd h (by omega)⟩
        exact ⟨_, _, rfl, e2, by omega, rt_d (fin (o := some n) e1.symm)⟩
end
end Kr

namespace Kr
open PySem PySem.Spec PyProof.Rows L2 Dl
open Evl (Ex)
open TL (tl numL)
/-! ### pieces of a text -/
theorem spl_mem {s : Nat} : ∀ {l acc p : List Nat} {c : Nat}, p ∈ TL.spl [s] 0 acc l → c ∈ p → c ∈ acc ∨ c ∈ l
  | [], acc, p, c, h, hc => by
    rw [TL.spl_nil] at h
    rw [List.mem_singleton.mp h] at hc
    exact .inl hc
  | a :: r, acc, p, c, h, hc => by
    cases hp : TL.pre [s] (a :: r) with
    | true =>
      rw [TL.spl_hit hp] at h
      rcases List.mem_cons.mp h with h | h
      · rw [h] at hc; exact .inl hc
      · rcases spl_mem h hc with h | h
        · cases h
        · exact .inr (List.mem_cons_of_mem _ h)
    | false =>
      rw [TL.spl_miss hp] at h
      rcases spl_mem h hc with h | h
      · rcases List.mem_append.mp h with h | h
        · exact .inl h
        · rw [List.mem_singleton.mp h]; exact .inr (List.mem_cons_self ..)
      · exact .inr (List.mem_cons_of_mem _ h)
theorem spl_sum {s : Nat} : ∀ (l acc : List Nat), ((TL.spl [s] 0 acc l).map List.length).sum + (TL.spl [s] 0 acc l).length = acc.length + l.length + 1
  | [], acc => by rw [TL.spl_nil]; simp
  | a :: r, acc => by
    cases hp : TL.pre [s] (a :: r) with
    | true =>
      rw [TL.spl_hit hp, show [s].length - 1 = 0 from rfl, List.map_cons, List.sum_cons, List.length_cons, List.length_cons]
      have := spl_sum (s := s) r []
      simp only [List.length_nil] at this
      omega
    | false =>
      rw [TL.spl_miss hp]
      have := spl_sum (s := s) r (acc ++ [a])
      rw [List.length_append, List.length_singleton] at this
      rw [List.length_cons]
      omega
theorem le_sum : ∀ {l : List Nat} {x : Nat}, x ∈ l → x ≤ l.sum
  | a :: r, x, h => by
    rw [List.sum_cons]
    rcases List.mem_cons.mp h with rfl | h
    · omega
    · have := le_sum h
      omega
theorem sum_ge_len : ∀ {l : List Nat}, (∀ x ∈ l, 1 ≤ x) → l.length ≤ l.sum
  | [], _ => Nat.le_refl _
  | a :: r, h => by
    rw [List.sum_cons, List.length_cons]
    have := sum_ge_len fun x hx => h x (List.mem_cons_of_mem _ hx)
    have := h a (List.mem_cons_self ..)
    omega
/-- a sign that texts are cut at -/
structure Sgn (y : Str) (s : Nat) : Prop where
  e : tl y = [s]
  k : y.cps.all (· < 256) = true
theorem sgn_blank : Sgn (Str.ofString " ") 32 := ⟨by decide +kernel, by decide +kernel⟩
theorem sgn_comma : Sgn (Str.ofString ",") 44 := ⟨by decide +kernel, by decide +kernel⟩
theorem sgn_line : Sgn (Str.ofString "\n") 10 := ⟨by decide +kernel, by decide +kernel⟩
section
variable {x y z : Str} {s : Nat}
theorem split_tl (h : Sgn y s) : (Txt.split x y).map tl = TL.spl [s] 0 [] (tl x) := by
  have := TL.split_spl x y (by rw [h.e]; exact List.cons_ne_nil _ _) (TL.kind_ok h.k)
  rwa [h.e] at this
theorem split_sum (h : Sgn y s) : ((Txt.split x y).map (·.length)).sum + (Txt.split x y).length = x.length + 1 := by
  have := spl_sum (s := s) (tl x) []
  rw [← split_tl h, List.length_map, List.map_map] at this
  rw [TL.len_tl x]
  have e : List.length ∘ tl = fun z : Str => z.length := funext fun z => (TL.len_tl z).symm
  rw [e] at this
  simp only [List.length_nil, Nat.zero_add] at this
  exact this
theorem split_piece (h : Sgn y s) (hz : z ∈ Txt.split x y) : z.length ≤ x.length ∧ ∀ c ∈ tl z, c ∈ tl x := by
  have hs := split_sum (x := x) h
  have h1 := le_sum (List.mem_map.mpr ⟨z, hz, rfl⟩ : z.length ∈ (Txt.split x y).map (·.length))
  have h2 : 1 ≤ (Txt.split x y).length := List.length_pos_of_mem hz
  refine ⟨by omega, fun c hc => ?_⟩
  have : tl z ∈ TL.spl [s] 0 [] (tl x) := by rw [← split_tl h]; exact List.mem_map.mpr ⟨z, hz, rfl⟩
  rcases spl_mem this hc with h | h
  · cases h
  · exact h
theorem split_few (h : Sgn y s) : (Txt.split x y).length ≤ x.length + 1 := by
  have := split_sum (x := x) h
  omega
theorem split_half (h : Sgn y s) (hp : ∀ z ∈ Txt.split x y, 1 ≤ z.length) : 2 * (Txt.split x y).length ≤ x.length + 1 := by
  have := split_sum (x := x) h
  have h2 := sum_ge_len (l := (Txt.split x y).map (·.length)) fun n hn => by
    obtain ⟨z, hz, rfl⟩ := List.mem_map.mp hn
    exact hp z hz
  rw [List.length_map] at h2
  omega
end
theorem asc.piece {x y z : Str} {s : Nat} (h : asc x) (hy : Sgn y s) (hz : z ∈ Txt.split x y) : asc z := fun c hc => h c ((split_piece hy hz).2 c hc)
/-! ### rows of any signs -/
def numsO : List Str → Option (List Nat)
  | [] => some []
  | z :: zs => match numO z, numsO zs with | some n, some ns => some (n :: ns) | _, _ => none
theorem numsO_some : ∀ {zs : List Str} {ns : List Nat}, numsO zs = some ns → zs.map numO = ns.map some
  | [], _, h => by cases h; rfl
  | z :: zs, ns, h => by
    unfold numsO at h
    cases h1 : numO z with
    | none => rw [h1] at h; cases h
    | some n =>
      cases h2 : numsO zs with
      | none => rw [h1, h2] at h; cases h
      | some ms =>
        rw [h1, h2] at h
        cases h
        rw [List.map_cons, List.map_cons, h1, numsO_some h2]
theorem numsO_none : ∀ {zs : List Str}, numsO zs = none → ∃ z ∈ zs, numO z = none
  | [], h => by cases h
  | z :: zs, h => by
    unfold numsO at h
    cases h1 : numO z with
    | none => exact ⟨z, List.mem_cons_self .., h1⟩
    | some n =>
      cases h2 : numsO zs with
      | none =>
        obtain ⟨y, hy, e⟩ := numsO_none h2
        exact ⟨y, List.mem_cons_of_mem _ hy, e⟩
      | some ms => rw [h1, h2] at h; cases h
theorem numsO_of : ∀ {zs : List Str} {ns : List Nat}, zs.map numO = ns.map some → numsO zs = some ns
  | [], [], _ => rfl
  | [], _ :: _, h => by cases h
  | _ :: _, [], h => by cases h
  | z :: zs, n :: ns, h => by
    rw [List.map_cons, List.map_cons] at h
    injection h with h1 h2
    unfold numsO
    rw [h1, numsO_of h2]
def optNs (o : Option (List Nat)) : PyData := match o with | none => .none | some ns => .tuple ((iz ns).map PyData.int)
def memNone (ds : List PyData) : Bool := memD .none ds
theorem memD_optN : ∀ {os : List (Option Nat)}, memD .none (os.map optN) = os.any Option.isNone
  | [] => rfl
  | o :: os => by
    have ih := memD_optN (os := os)
    unfold memD at ih ⊢
    rw [List.map_cons, List.any_cons, List.any_cons, ih]
    cases o <;> rfl
theorem flat_optN (os : List (Option Nat)) : (os.map optN).all flatD = true := by
  rw [List.all_eq_true]
  intro x hx
  obtain ⟨o, _, rfl⟩ := List.mem_map.mp hx
  cases o <;> rfl
theorem optN_ints (ns : List Nat) : (ns.map some).map optN = (iz ns).map PyData.int := by
  unfold iz
  rw [List.map_map, List.map_map]
  rfl
section
variable {P : Program} {w : World} {K : PySem.W.Frag} {mg : Str → Option Value} {base : Heap}
def pNumsX (ds : List PyData) : Prop := ∃ zs : List Str, ds = [.list (zs.map PyData.str)] ∧ zs.length ≤ 100000 ∧ ∀ z ∈ zs, z.length ≤ 100000 ∧ asc z
def tNumsX (ds : List PyData) (r : Rt) : Prop := ∀ zs : List Str, ds = [.list (zs.map PyData.str)] → r = .d (optNs (numsO zs))
theorem ok_numbers_ofX (D : Df K mg "numbers_of" s_numbers_of ["words"]) (B : Bn mg) (c_number_of : Cal P w K mg base 1 "number_of" (spP K 1 pNumX tNumX)) : Cal P w K mg base 2 "numbers_of" (spP K 1 pNumsX tNumsX) := by
  have nd := sc_numbers_of.nd
  refine calP D sc_numbers_of rfl fun f cdv A outer st H E hr => ⟨_, (pss_cons (ps_setLc (own := [("word", 2)]) (i := 1) rfl nd rfl rfl (sw_true rfl rfl rfl (by decide +kernel)) (Kk.pi_list (K := K) (pv 0)) (blkOk_by (by kernel_rfl)) (fun _ _ _ _ _ => (pg_name (i := 2) nd rfl (by first | exact Or.inl rfl | exact Or.inr rfl))) (fun _ _ _ _ _ => pts_nil) (fun _ _ _ _ _ => (Dl.pe_c c_number_of hr (pa_cons (pv 2) pa_nil))))
      (pss_one (ps_ret (pe_ifExp (pt_cmpR (Kk.op_in_seq (K := K)) pe_non (pv 1) (by rfl)) pe_non (Kk.pe_tupleOf (K := K) (by rfl) B.tuple (pv 1)))))), fun ds hn hp => ?_⟩
  obtain ⟨zs, rfl, hl, hz⟩ := hp
  have fin : ∀ {o : Option (List Nat)}, o = numsO zs → tNumsX [.list (zs.map PyData.str)] (.d (optNs o)) := fun {o} e zs' e' => by
    have : zs = zs' := strsD_inj (PyData.list.inj (List.head_eq_of_cons_eq e'))
    rw [e, this]
  show ExS K _ _ [.pu (.list (zs.map PyData.str)), .non, .non]
  fail "kr"
  refine ev_fL (g := PyData.str) (fun _ => true) (fun z => optN (numO z)) ?_
  fail "kr"
  refine ⟨wip1 rfl junk_non, Nat.le_of_ble_eq_true rfl, hl, fun z hz2 => ?_, ?_⟩
  · unfold Turn1C
    simp only [List.set_cons_zero, List.set_cons_succ]
    fail "kr"
    refine ⟨rfl, rfl, fun _ => ?_⟩
    refine ed_of (ev_call ?_)
    fail "kr"
    refine ⟨rfl, ⟨z, rfl, hz z hz2⟩, fun r hr => ?_⟩
    rw [hr z rfl]
    exact ⟨_, frz_pu, rfl, rfl⟩
  · rw [List.filter_eq_self.mpr (fun _ _ => rfl), show (zs.map fun z => optN (numO z)) = (zs.map numO).map optN from by rw [List.map_map]; rfl]
    fail "kr"
    refine .inr (.inr ⟨_, _, rfl, .inl (den_al rfl), rfl, flat_optN _, ?_⟩)
    rw [if_neg Bool.false_ne_true, memD_optN]
    cases ho : numsO zs with
    | none =>
      obtain ⟨z, h1, h2⟩ := numsO_none ho
      have e : (zs.map numO).any Option.isNone = true := List.any_eq_true.mpr ⟨none, List.mem_map.mpr ⟨z, h1, h2⟩, rfl⟩
      rw [e]
      fail "kr"
      exact rt_d (fin (o := none) ho.symm)
    | some ns =>
      have e0 := numsO_some ho
      have hlen : zs.length = ns.length := by
        have := congrArg List.length e0
        rwa [List.length_map, List.length_map] at this
      have e : (ns.map some).any Option.isNone = false := by
        rw [List.any_eq_false]
        intro x hx
        obtain ⟨n, _, rfl⟩ := List.mem_map.mp hx
        exact Bool.false_ne_true
      rw [e0, e, optN_ints]
      fail "kr"
      refine ⟨by rw [List.length_map, iz_len]; omega, ?_⟩
      exact rt_d (fin (o := some ns) ho.symm)
end
end Kr

namespace Kr
open PySem PySem.Spec PyProof.Rows L2 Dl
open Evl (Ex)
open TL (tl numL)
def wantsO (a : Str) : Option (List Nat) := if a = dashS then some [] else numsO (Txt.split a (Str.ofString ","))
def rowO (line : Str) : Option (List Nat × List Nat) := match Txt.split line (Str.ofString " ") with
  | [a, b, c, d, e, f] => (wantsO a).bind fun ws => (numsO [b, c, d, e, f]).map fun rs => (ws, rs)
  | _ => none
def rowOD : Option (List Nat × List Nat) → PyData
  | none => .none
  | some r => .tuple (.tuple ((iz r.1).map PyData.int) :: (iz r.2).map PyData.int)
theorem numsO_len {zs : List Str} {ns : List Nat} (h : numsO zs = some ns) : ns.length = zs.length := by
  have := congrArg List.length (numsO_some h)
  rw [List.length_map, List.length_map] at this
  exact this.symm
theorem numsO_mem {zs : List Str} {ns : List Nat} (h : numsO zs = some ns) : ∀ z ∈ zs, 1 ≤ z.length := fun z hz => by
  have e := numsO_some h
  have hm : numO z ∈ ns.map some := by rw [← e]; exact List.mem_map.mpr ⟨z, hz, rfl⟩
  obtain ⟨n, _, hn⟩ := List.mem_map.mp hm
  obtain ⟨h1, rfl⟩ := numO_some hn.symm
  exact (shape_num h1).1
theorem rowO_some {line : Str} {r : List Nat × List Nat} (h : rowO line = some r) : r.2.length = 5 ∧ 2 * r.1.length ≤ line.length + 1 := by
  unfold rowO at h
  split at h
  · rename_i a b c d e f hs
    cases hw : wantsO a with
    | none => rw [hw] at h; cases h
    | some ws =>
      rw [hw] at h
      cases hr : numsO [b, c, d, e, f] with
      | none => rw [hr] at h; cases h
      | some rs =>
        rw [hr] at h
        cases h
        refine ⟨numsO_len hr, ?_⟩
        have ha : a.length ≤ line.length := (split_piece sgn_blank (by rw [hs]; exact List.mem_cons_self ..)).1
        unfold wantsO at hw
        split at hw
        · cases hw
          exact Nat.zero_le _
        · have := split_half (x := a) sgn_comma (numsO_mem hw)
          have h2 := numsO_len hw
          show 2 * ws.length ≤ _
          omega
  · cases h
section
variable {P : Program} {w : World} {K : PySem.W.Frag} {mg : Str → Option Value} {base : Heap}
def pRowX (ds : List PyData) : Prop := ∃ z : Str, ds = [.str z] ∧ z.length ≤ 50000 ∧ asc z
def tRowX (ds : List PyData) (r : Rt) : Prop := ∀ z : Str, ds = [.str z] → r = .d (rowOD (rowO z))
theorem ok_row_ofX (D : Df K mg "row_of" s_row_of ["line"]) (B : Bn mg) (hN : Cst K mg "NONE" (.str dashS)) (c_numbers_of : Cal P w K mg base 2 "numbers_of" (spP K 1 pNumsX tNumsX)) : Cal P w K mg base 3 "row_of" (spP K 1 pRowX tRowX) := by
  have nd := sc_row_of.nd
  obtain ⟨vN, uN, hmN, rN, dN⟩ := hN.ex
  have g_NONE : ∃ u, mg "NONE" = some u ∧ RelV vN u := ⟨uN, hmN, rN⟩
  refine calP D sc_row_of rfl fun f cdv A outer st H E hr => ⟨_, (pss_cons (ps_set (i := 1) nd rfl (Or.inl rfl) (pe_split (pv 0) pe_str))
      (pss_cons (ps_if (pt_cmpR op_ne (pe_callB (Kk.call_len_seq (K := K)) (by rfl) B.len (by decide +kernel) (pa_cons (pv 1) pa_nil)) pe_int (nomark _)) (pss_one (ps_ret pe_non)) pss_nil)
      (pss_cons (ps_set (i := 2) nd rfl (Or.inl rfl) (pe_ifExp (pt_cmpR op_eq (pe_ix (Kk.ix_list (K := K)) (pv 1) pe_int (fun _ _ => rfl)) (C8.pe_gc (by rfl) g_NONE) (nomark _)) (pe_tup pa_nil) (Dl.pe_c c_numbers_of hr (pa_cons (pe_split (pe_ix (Kk.ix_list (K := K)) (pv 1) pe_int (fun _ _ => rfl)) pe_str) pa_nil))))
      (pss_cons (ps_set (i := 3) nd rfl (Or.inl rfl) (Dl.pe_c c_numbers_of hr (pa_cons (pe_slice (Kk.sl_list (K := K)) (pv 1) (po_some pe_int) po_none) pa_nil)))
      (pss_one (ps_ret (pe_ifExp (PW.pt (pw_or (pt_cmp (pc_isN (pv 2))) (pw_or1 (pt_cmp (pc_isN (pv 3)))))) pe_non (pe_op (Kk.op_catA (K := K)) (pe_tup (pa_cons (pv 2) pa_nil)) (pv 3))))))))), fun ds hn hp => ?_⟩
  obtain ⟨z, rfl, hz, ha⟩ := hp
  have fin : ∀ {o : Option (List Nat × List Nat)}, o = rowO z → tRowX [.str z] (.d (rowOD o)) := fun {o} e z' e' => by cases e'; rw [e]
  have hsl : sizeLine = 16777216 := rfl
  have hfew := split_few (x := z) sgn_blank
  have hpiece : ∀ q ∈ Txt.split z (Str.ofString " "), q.length ≤ 50000 ∧ asc q := fun q hq => ⟨Nat.le_trans (split_piece sgn_blank hq).1 hz, ha.piece sgn_blank hq⟩
  show ExS K _ _ [.pu (.str z), .non, .non, .non]
  fail "kr"
  refine ⟨by decide +kernel, by rw [hsl]; omega, ?_⟩
  fail "kr"
  by_cases h6 : (Txt.split z (Str.ofString " ")).length = 6
  case neg =>
    have e0 : rowO z = none := by
      unfold rowO
      split
      · rename_i e; rw [e] at h6; exact absurd rfl h6
      · rfl
    rw [List.length_map, decide_eq_false (show ¬ (((Txt.split z (Str.ofString " ")).length : Int) = 6) by omega)]
    fail "kr"
    exact rt_d (fin (o := none) e0.symm)
  rw [List.length_map, decide_eq_true (show (((Txt.split z (Str.ofString " ")).length : Int) = 6) by omega)]
  obtain ⟨a, b, c, d, e, g, hs⟩ : ∃ a b c d e g, Txt.split z (Str.ofString " ") = [a, b, c, d, e, g] := by
    match Txt.split z (Str.ofString " "), h6 with
    | [a, b, c, d, e, g], _ => exact ⟨a, b, c, d, e, g, rfl⟩
  rw [hs] at hpiece ⊢
  have e0 : rowO z = (wantsO a).bind fun ws => (numsO [b, c, d, e, g]).map fun rs => (ws, rs) := by
    unfold rowO
    rw [hs]
  have ec : Dl.cutD ([a, b, c, d, e, g].map PyData.str) (some 1) none = [b, c, d, e, g].map PyData.str := rfl
  have hrest : ∀ q ∈ [b, c, d, e, g], q.length ≤ 100000 ∧ asc q := fun q hq => by
    have := hpiece q (List.mem_cons_of_mem _ hq)
    exact ⟨by omega, this.2⟩
  have hpa := hpiece a (List.mem_cons_self ..)
  refine ifF rfl ?_
  refine xs_next ?_
  show ExS K (tSeq _ _) _ [.pu (.str z), .ow (RL K ([a, b, c, d, e, g].map PyData.str)), .non, .non]
  refine xs_seq (xs_mid (fun δ' => δ' = [.pu (.str z), .ow (RL K ([a, b, c, d, e, g].map PyData.str)), .pu (optNs (wantsO a)), .non]) ?_ ?_)
  · fail "kr"
    refine ⟨_, _, _, den_al rfl, rfl, atI_nat' (i := 0) rfl, ?_⟩
    fail "kr"
    refine ifB (fun h => ?_) (fun h => ?_)
    · have h := of_decide_eq_true h
      have ew : wantsO a = some [] := if_pos h
      rw [ew]
      fail "kr"
      rfl
    · have h := of_decide_eq_false h
      have ew : wantsO a = numsO (Txt.split a (Str.ofString ",")) := if_neg h
      rw [ew]
      refine ev_call ?_
      fail "kr"
      refine ⟨_, _, _, den_al rfl, rfl, atI_nat' (i := 0) rfl, ?_⟩
      fail "kr"
      have hl2 := hpa.1
      refine ⟨by decide +kernel, by rw [hsl]; omega, ?_⟩
      fail "kr"
      refine ⟨rfl, ⟨_, rfl, ?_, fun q hq => ⟨?_, hpa.2.piece sgn_comma hq⟩⟩, fun r hr => ?_⟩
      · have := split_few (x := a) sgn_comma
        omega
      · have := (split_piece sgn_comma hq).1
        omega
      rw [hr _ rfl]
      fail "kr"
      rfl
  · rintro _ rfl
    fail "kr"
    refine ev_call ?_
    fail "kr"
    rw [ec]
    refine ⟨rfl, ⟨_, rfl, by show 5 ≤ 100000; decide, hrest⟩, fun r hr => ?_⟩
    rw [hr _ rfl]
    fail "kr"
    cases hw : wantsO a with
    | none =>
      fail "kr"
      exact rt_d (fin (o := none) (by rw [e0, hw]; rfl))
    | some ws =>
      refine ifF rfl ?_
      fail "kr"
      cases hr5 : numsO [b, c, d, e, g] with
      | none =>
        fail "kr"
        exact rt_d (fin (o := none) (by rw [e0, hw, hr5]; rfl))
      | some rs =>
        refine ifF rfl ?_
        show EvS K _ [.pu (.str z), .ow (RL K ([a, b, c, d, e, g].map PyData.str)), .pu (.tuple ((iz ws).map PyData.int)), .pu (.tuple ((iz rs).map PyData.int))] _
        fail "kr"
        refine ⟨by rw [List.length_map, iz_len, numsO_len hr5]; show 1 + 5 ≤ 100000; decide, ?_⟩
        exact rt_d (fin (o := some (ws, rs)) (by rw [e0, hw, hr5]; rfl))
end
end Kr

namespace Kr
open PySem PySem.Spec PyProof.Rows L2 Dl
open Evl (Ex)
open TL (tl numL)
def linesO (t : Str) : List (Option (List Nat × List Nat)) := (Txt.split t (Str.ofString "\n")).map rowO
def rowsOD (t : Str) : PyData := .tuple ((linesO t).map rowOD)
def firstNone {α : Type} (os : List (Option α)) : Option Nat := (List.range os.length).find? fun i => (os.getD i none).isNone
/-- what read raises -/
def readX (t : Str) : Option Xc := match firstNone (linesO t) with
  | some i => some (.text (.int (i : Int)))
  | none => needD (rowsOD t)
theorem firstNone_at {α : Type} {os : List (Option α)} {i : Nat} (h : os[i]? = some none) (hb : ∀ j, j < i → ∃ x, os[j]? = some (some x)) : firstNone os = some i :=
  find_go (List.getElem?_eq_some_iff.mp h).1 (fun j hj => by
    obtain ⟨x, hx⟩ := hb j hj
    rw [List.getD_eq_getElem?_getD, hx]; rfl) (by rw [List.getD_eq_getElem?_getD, h]; rfl)
theorem firstNone_none {α : Type} {os : List (Option α)} (h : ∀ j, j < os.length → ∃ x, os[j]? = some (some x)) : firstNone os = none := by
  unfold firstNone
  rw [List.find?_eq_none]
  intro j hj e
  obtain ⟨x, hx⟩ := h j (List.mem_range.mp hj)
  rw [List.getD_eq_getElem?_getD, hx] at e
  cases e
theorem okPlan_rows {t : Str} (ht : t.length ≤ 8000) : okPlan (rowsOD t) := fun ss e _ s hs => by
  cases e
  obtain ⟨o, ho, rfl⟩ := List.mem_map.mp hs
  obtain ⟨line, hl, rfl⟩ := List.mem_map.mp ho
  intro ws r e
  cases hr : rowO line with
  | none => rw [hr] at e; cases e
  | some x =>
    rw [hr] at e
    have e : PyData.tuple (.tuple ((iz x.1).map PyData.int) :: (iz x.2).map PyData.int) = .tuple (.tuple ws :: r) := e
    simp only [PyData.tuple.injEq, List.cons.injEq] at e
    obtain ⟨h1, h2⟩ := rowO_some hr
    have h3 := (split_piece sgn_line hl).1
    rw [← e.1]
    refine ⟨by rw [List.length_map, iz_len]; omega, fun y hy => ?_⟩
    obtain ⟨n, _, rfl⟩ := List.mem_map.mp hy
    exact okD_int.up (Nat.zero_le _)
section
variable {P : Program} {w : World} {K : PySem.W.Frag} {mg : Str → Option Value} {base : Heap} {Z : XA}
def pReadX (ds : List PyData) : Prop := ∃ t : Str, ds = [.str t] ∧ t.length ≤ 8000 ∧ asc t
def tReadX (ds : List PyData) (r : Rt) : Prop := ∀ t : Str, ds = [.str t] → readX t = none ∧ r = .d (rowsOD t)
def rReadX (K : PySem.W.Frag) (Z : XA) (ds : List PyData) (p : XP) : Prop := ∃ t x, ds = [.str t] ∧ readX t = some x ∧ p = xp K Z x
theorem ok_readX (D : Df K mg "read" s_read ["text"]) (B : Bn mg) (x_BadText : Xr.XTxt P w K mg base "BadText" "row" Z.text) (c_row_of : Cal P w K mg base 3 "row_of" (spP K 1 pRowX tRowX)) (cX_need_plan : CalX P w K mg base 4 "need_plan" (spX K 1 pPlanX (tNeed needD) (rNeed K Z needD))) : CalX P w K mg base 5 "read" (spX K 1 pReadX tReadX (rReadX K Z)) := by
  have nd := sc_read.nd
  refine calX D sc_read rfl fun f cdv A outer st H E hr => ⟨_, (pss_cons (ps_set (i := 1) nd rfl (Or.inl rfl) (pe_lst pa_nil))
      (pss_cons (ps_for (passes_of rfl) rfl (Kk.pi_enum (K := K) (by rfl) B.enumerate (pa_cons (pe_split (pv 0) pe_str) pa_nil)) (Kk.pg_tup (K := K) (n := 2) (by rfl) (pgs_cons (pg_name (i := 2) nd rfl (Or.inl rfl)) (pgs_cons (pg_name (i := 3) nd rfl (Or.inl rfl)) pgs_nil))) (pss_cons (ps_set (i := 4) nd rfl (Or.inl rfl) (Dl.pe_c c_row_of hr (pa_cons (pv 3) pa_nil)))
      (pss_cons (ps_if (pt_cmp (pc_isN (pv 4))) (pss_one (Xr.ps_raiseX (W := fun cls d _ H => E cls d H) x_BadText rfl (takes_of rfl rfl rfl rfl) (hr.mono (by decide)) (pa_cons (pv 2) pa_nil) (by rfl))) pss_nil)
      (pss_one (ps_expr (Kk.pe_bm (K := K) PySem.F.plainAttrs_list PySem.F.slot_list_append PySem.F.type_list_append mt_append (pv 1) (pa_cons (pv 4) pa_nil)))))))
      (pss_cons (ps_expr (Dl.pe_cX cX_need_plan hr Dl.passX (pa_cons (Kk.pe_tupleOf (K := K) (by rfl) B.tuple (pv 1)) pa_nil)))
      (pss_one (ps_ret (Kk.pe_tupleOf (K := K) (by rfl) B.tuple (pv 1))))))), fun ds hn hp => ?_⟩
  obtain ⟨t, rfl, ht, ha⟩ := hp
  have hsl : sizeLine = 16777216 := rfl
  have hfew := split_few (x := t) sgn_line
  have hlo : (linesO t).length = (Txt.split t (Str.ofString "\n")).length := List.length_map _
  show ExS K _ _ [.pu (.str t), .non, .non, .non, .non]
  fail "kr"
  refine xs_forE ?_
  fail "kr"
  refine ⟨by decide +kernel, by rw [hsl]; omega, ?_⟩
  fail "kr"
  refine ⟨fun i δ' => ∃ x2 x3 x4, δ' = [.pu (.str t), .ow (RL K (((linesO t).take i).map rowOD)), x2, x3, x4] ∧ ∀ j, j < i → ∃ x, (linesO t)[j]? = some (some x), ⟨_, _, _, rfl, fun j hj => absurd hj (Nat.not_lt_zero _)⟩, fun i y δ' hy => ?_, fun δ' => ?_⟩
  · rintro ⟨x2, x3, x4, rfl, hb⟩
    rw [List.getElem?_map] at hy
    cases hs : (Txt.split t (Str.ofString "\n"))[i]? with
    | none => rw [hs] at hy; cases hy
    | some line =>
    rw [hs] at hy
    cases hy
    have hmem := List.mem_of_getElem? hs
    have hpl := split_piece sgn_line hmem
    have hoi : (linesO t)[i]? = some (rowO line) := by unfold linesO; rw [List.getElem?_map, hs]; rfl
    refine turn1 tg_tup2 (tgl2 (Nat.le_of_ble_eq_true rfl) (Nat.le_of_ble_eq_true rfl)) ?_
    show ExS K _ _ [.pu (.str t), .ow (RL K (((linesO t).take i).map rowOD)), .pu (.int i), .pu (.str line), x4]
    fail "kr"
    refine ev_call ?_
    fail "kr"
    refine ⟨rfl, ⟨line, rfl, by omega, ha.piece sgn_line hmem⟩, fun r hr => ?_⟩
    rw [hr line rfl]
    fail "kr"
    cases hro : rowO line with
    | none =>
      fail "kr"
      refine ⟨_, _, rfl, ⟨rfl, t, .text (.int (i : Int)), rfl, ?_, rfl⟩, xp_f rfl⟩
      rw [hro] at hoi
      unfold readX
      rw [firstNone_at hoi hb]
    | some o =>
      rw [hro] at hoi
      refine ifF rfl ?_
      show ExS K _ _ [.pu (.str t), .ow (RL K (((linesO t).take i).map rowOD)), .pu (.int i), .pu (.str line), .pu (rowOD (some o))]
      fail "kr"
      refine ⟨by rw [List.length_map]; have := List.length_take_le i (linesO t); have := (List.getElem?_eq_some_iff.mp hs).1; omega, ?_⟩
      refine ⟨.pu (.int i), .pu (.str line), .pu (rowOD (some o)), ?_, fun j hj => ?_⟩
      · rw [List.take_add_one, hoi, List.map_append]
        rfl
      · rcases Nat.lt_succ_iff_lt_or_eq.mp hj with h | h
        · exact hb j h
        · rw [h]; exact ⟨o, hoi⟩
  · rintro ⟨x2, x3, x4, rfl, hb⟩
    have e3 : (linesO t).take ((Txt.split t (Str.ofString "\n")).map PyData.str).length = linesO t := by rw [List.length_map, ← hlo, List.take_length]
    rw [e3]
    rw [List.length_map, ← hlo] at hb
    have hfn : readX t = needD (rowsOD t) := by unfold readX; rw [firstNone_none hb]
    fail "kr"
    refine ⟨by rw [List.length_map]; omega, ?_⟩
    fail "kr"
    refine ⟨rfl, ⟨rowsOD t, rfl, okPlan_rows ht, fun kv z => by cases z⟩, fun r hT => ?_, fun p ⟨d', x, e, hx, hp⟩ => ?_⟩
    · obtain ⟨h1, rfl⟩ := hT _ rfl
      fail "kr"
      refine ⟨by rw [List.length_map]; omega, ?_⟩
      exact rt_d fun t' e => by cases e; exact ⟨hfn.trans h1, rfl⟩
    · cases e
      exact ⟨rfl, t, x, rfl, hfn.trans hx, hp⟩
end
end Kr

namespace Kr
open PySem PySem.Spec PyProof.Rows L2 Dl
open Evl (Ex)
section
variable {P : Program} {w : World} {K : PySem.W.Frag} {mg : Str → Option Value} {base : Heap} {Z : XA}
def tWritX (ds : List PyData) (r : Rt) : Prop := ∀ d, ds = [d] → needD d = none ∧ r = .d (.str (textOf (planU d)))
theorem ok_writtenX (D : Df K mg "written" s_written ["plan"]) (B : Bn mg) (hN : Cst K mg "NONE" (.str dashS)) (cX_need_plan : CalX P w K mg base 4 "need_plan" (spX K 1 pPlanX (tNeed needD) (rNeed K Z needD))) : CalX P w K mg base 5 "written" (spX K 1 pPlanX tWritX (rNeed K Z needD)) := by
  have nd := sc_written.nd
  obtain ⟨vN, uN, hmN, rN, dN⟩ := hN.ex
  have g_NONE : ∃ u, mg "NONE" = some u ∧ RelV vN u := ⟨uN, hmN, rN⟩
  refine calX D sc_written rfl fun f cdv A outer st H E hr => ⟨_, (pss_cons (ps_expr (Dl.pe_cX cX_need_plan hr Dl.passX (pa_cons (pv 0) pa_nil)))
      (pss_cons (ps_set (i := 1) nd rfl (Or.inl rfl) (pe_lst pa_nil))
      (pss_cons (ps_for (passes_of rfl) rfl (Kk.pi_tup (K := K) (pv 0)) (pg_name (i := 2) nd rfl (Or.inl rfl)) (pss_cons (ps_set (i := 3) nd rfl (Or.inl rfl) (pe_ifExp (pt_cmpR (Kk.op_neD (K := K) hr.units) (pe_ix (Kk.ix_tup (K := K)) (pv 2) pe_int (fun _ _ => rfl)) (pe_tup pa_nil) (nomark _)) (Kk.pe_join (K := K) pe_str (pe_lc (own := [("one", 4)]) rfl nd (Kk.pi_tup (K := K) (pe_ix (Kk.ix_tup (K := K)) (pv 2) pe_int (fun _ _ => rfl))) (blkOk_by (by kernel_rfl)) (fun _ _ _ _ _ => (pg_name (i := 4) nd rfl (by first | exact Or.inl rfl | exact Or.inr rfl))) (fun _ _ _ _ _ => pts_nil) (fun _ _ _ _ _ => (pe_callTy call_str_int (by rfl) B.str (by decide +kernel) (pa_cons (pv 4) pa_nil))))) (C8.pe_gc (by rfl) g_NONE)))
      (pss_one (ps_expr (Kk.pe_bm (K := K) PySem.F.plainAttrs_list PySem.F.slot_list_append PySem.F.type_list_append mt_append (pv 1) (pa_cons (Kk.pe_join (K := K) pe_str (pe_op (Kk.op_catS (K := K)) (pe_lst (pa_cons (pv 3) pa_nil)) (pe_lc (own := [("part", 5)]) rfl nd (Kk.pi_tup (K := K) (pe_slice (Kk.sl_tupA (K := K)) (pv 2) (po_some pe_int) po_none)) (blkOk_by (by kernel_rfl)) (fun _ _ _ _ _ => (pg_name (i := 5) nd rfl (by first | exact Or.inl rfl | exact Or.inr rfl))) (fun _ _ _ _ _ => pts_nil) (fun _ _ _ _ _ => (pe_callTy call_str_int (by rfl) B.str (by decide +kernel) (pa_cons (pv 5) pa_nil)))))) pa_nil))))))
      (pss_one (ps_ret (Kk.pe_join (K := K) pe_str (pv 1))))))), fun ds hn hp => ?_⟩
  obtain ⟨d, rfl, hk⟩ := hp
  show ExS K _ _ [.pu d, .non, .non, .non, .non, .non]
  fail "kr"
  refine ⟨rfl, ⟨d, rfl, hk⟩, fun r hT => ?_, fun p ⟨d', x, e, hx, hp⟩ => ?_⟩
  case refine_2 =>
    cases e
    exact ⟨rfl, d, x, rfl, hx, hp⟩
  obtain ⟨hnd, rfl⟩ := hT d rfl
  obtain ⟨ed, hS, _⟩ := need_none hnd
  generalize hpu : planU d = p at ed hS
  subst ed
  have fin : tWritX [planD p] (.d (.str (textOf p))) := fun d' e => by
    cases e
    exact ⟨hnd, by rw [planU_plan]⟩
  have hlen := hS.few
  fail "kr"
  refine xs_forT ?_
  fail "kr"
  refine ⟨fun i δ' => ∃ x2 x3, δ' = [.pu (planD p), .ow (RL K (strsD ((p.take i).map rowT))), x2, x3, .non, .non], ⟨_, _, rfl⟩, fun i y δ' hy => ?_, fun δ' => ?_⟩
  · rintro ⟨x2, x3, rfl⟩
    rw [List.getElem?_map] at hy
    cases hs : p[i]? with
    | none => rw [hs] at hy; cases hy
    | some s =>
    rw [hs] at hy
    cases hy
    have g := hS.svc i s hs
    have hil : i < p.length := (List.getElem?_eq_some_iff.mp hs).1
    refine turn1_name (Nat.le_of_ble_eq_true rfl) ?_
    refine xs_seq ?_
    dsimp only
    refine xs_mid (fun δ' => δ' = [.pu (planD p), .ow (RL K (strsD ((p.take i).map rowT))), .pu (svcD s), .pu (.str (wantsW s)), .non, .non]) ?_ ?_
    · fail "kr"
      refine ⟨shaped_intsT _, shaped_nilT2, ?_⟩
      fail "kr"
      rw [eqvT_nil]
      by_cases hw : s.wants = []
      · have ew : wantsW s = dashS := if_pos hw
        refine ifF (by rw [hw]; rfl) ?_
        fail "kr"
        rw [ew]
        first | rfl | skip
      · have hne : (!((iz s.wants).map PyData.int).isEmpty) = true := by
          cases hq : s.wants with
          | nil => exact absurd hq hw
          | cons a r => rfl
        have ew : wantsW s = Txt.join commaS (s.wants.map fun (n : Nat) => numI (n : Int)) := if_neg hw
        have e1 : (iz s.wants).map (fun i => PyData.str (numI i)) = (s.wants.map fun (n : Nat) => numI (n : Int)).map PyData.str := by
          unfold iz
          rw [List.map_map, List.map_map]
          rfl
        have hok := wants_words g hlen
        have hfew := g.few
        refine ifT hne ?_
        fail "kr"
        refine ev_fT (g := PyData.int) (fun _ => true) (fun i => .str (numI i)) ?_
        fail "kr"
        refine ⟨wip1 rfl junk_non, Nat.le_of_ble_eq_true rfl, by rw [iz_len]; omega, fun a ha => ?_, ?_⟩
        · obtain ⟨n, rfl, hn⟩ := iz_ex ha
          have := (g.below n hn).1
          unfold Turn1C
          simp only [List.set_cons_zero, List.set_cons_succ]
          fail "kr"
          refine ⟨rfl, rfl, fun _ => ?_⟩
          fail "kr"
          refine ⟨log_small (by omega) (by omega), ?_⟩
          exact ⟨_, frz_pu, rfl, rfl⟩
        · rw [filter_yes', e1]
          refine ⟨_, .inl den_ow, ?_, ?_⟩
          · have h1 := sum_len (b := 2) fun z hz => (hok z hz).1
            have h2 : (Str.ofString ",").length = 1 := by decide +kernel
            rw [List.length_map] at h1 ⊢
            rw [h2]
            omega
          · fail "kr"
            rw [ew]
            first | rfl | skip
    · rintro _ rfl
      have e2 : (partsOf s).map (fun i => PyData.str (numI i)) = ((partsOf s).map numI).map PyData.str := by
        rw [List.map_map]
        rfl
      fail "kr"
      refine ev_fT (g := PyData.int) (fun _ => true) (fun i => .str (numI i)) ?_
      fail "kr"
      refine ⟨partsOf s, rfl, wip1 rfl junk_non, Nat.le_of_ble_eq_true rfl, by show 5 ≤ 100000; decide, fun a ha => ?_, ?_⟩
      · obtain ⟨n, rfl, hn⟩ := g.num hlen a ha
        unfold Turn1C
        simp only [List.set_cons_zero, List.set_cons_succ]
        fail "kr"
        refine ⟨rfl, rfl, fun _ => ?_⟩
        fail "kr"
        refine ⟨log_small (by omega) (by omega), ?_⟩
        exact ⟨_, frz_pu, rfl, rfl⟩
      · rw [filter_yes', e2]
        have h1 := sum_len (b := 100) fun z hz => (words_ok g hlen z hz).1
        have h2 : (Str.ofString " ").length = 1 := by decide +kernel
        refine ⟨[.str (wantsW s)], _, den_ow, den_ow, by show 1 + 5 ≤ 100000; decide, wordsOf s, .inl den_ow, ?_, ?_⟩
        · rw [h2]
          have h3 : (wordsOf s).length = 6 := rfl
          rw [h3] at h1 ⊢
          omega
        · fail "kr"
          refine ⟨by unfold strsD; rw [List.length_map, List.length_map]; have := List.length_take_le i p; omega, ?_⟩
          refine ⟨.pu (svcD s), .pu (.str (wantsW s)), ?_⟩
          rw [List.take_add_one, hs]
          unfold strsD
          rw [List.map_append, List.map_append]
          rfl
  · rintro ⟨x2, x3, rfl⟩
    fail "kr"
    have e3 : p.take (p.map svcD).length = p := by rw [List.length_map, List.take_length]
    rw [e3]
    have h1 := sum_len (b := 700) fun z hz => (rows_ok hS z hz).1
    have h2 : (Str.ofString "\n").length = 1 := by decide +kernel
    rw [List.length_map] at h1
    exact ⟨by rw [h2, List.length_map]; omega, rt_d fin⟩
end
end Kr

namespace Kr
open PySem PySem.Spec PyProof.Rows L2 Dl
open Evl (Ex)
open TL (tl numL)
theorem memD_words {z : Str} : memD (.str z) ((List.range 1000).map fun (n : Nat) => PyData.str (numI (n : Int))) = (numO z).isSome := by
  have key : memD (.str z) ((List.range 1000).map fun (n : Nat) => PyData.str (numI (n : Int))) = (List.range 1000).any fun n => decide (numW n = z) := by
    unfold memD
    rw [List.any_map]
    refine congrArg (fun f => (List.range 1000).any f) (funext fun n => ?_)
    show decide (numI (n : Int) = z) = decide (numW n = z)
    rfl
  rw [key]
  unfold numO
  cases h : (List.range 1000).find? fun n => decide (numW n = z) with
  | none =>
    rw [List.find?_eq_none] at h
    exact List.any_eq_false.mpr h
  | some n => exact List.any_eq_true.mpr ⟨n, List.mem_of_find?_eq_some h, List.find?_some (p := fun n => decide (numW n = z)) h⟩
section
variable {P : Program} {w : World} {K : PySem.W.Frag} {mg : Str → Option Value} {base : Heap}
theorem ok__law_number (D : Df K mg "_law_number" s__law_number ["_law_word_here"]) (B : Bn mg) : Cal P w K mg base 1 "_law_number" (spP K 1 pNumX tNumX) := by
  have nd := sc__law_number.nd
  refine calP D sc__law_number rfl fun f cdv A outer st H E hr => ⟨_, (pss_one (ps_ret (pe_ifExp (pt_cmpR (Kk.op_in_seq (K := K)) (pv 0) (pe_lc (own := [("_law_number_here", 1)]) rfl nd (pi_range1 (by rfl) B.range (pa_cons pe_int pa_nil)) (blkOk_by (by kernel_rfl)) (fun _ _ _ _ _ => (pg_name (i := 1) nd rfl (by first | exact Or.inl rfl | exact Or.inr rfl))) (fun _ _ _ _ _ => pts_nil) (fun _ _ _ _ _ => (pe_callTy call_str_int (by rfl) B.str (by decide +kernel) (pa_cons (pv 1) pa_nil)))) (by rfl)) (pe_callTy call_int_str (by rfl) B.int (by decide +kernel) (pa_cons (pv 0) pa_nil)) pe_non))), fun ds hn hp => ?_⟩
  obtain ⟨z, rfl, hz, ha⟩ := hp
  show ExS K _ _ [.pu (.str z), .non]
  fail "kr"
  refine ev_fR (fun _ => true) (fun n => .str (numI (n : Int))) ?_
  fail "kr"
  refine ⟨wip1 rfl junk_non, Nat.le_of_ble_eq_true rfl, by show 1000 ≤ 100000; decide, fun n hn2 => ?_, ?_⟩
  · unfold Turn1C
    simp only [List.set_cons_zero, List.set_cons_succ]
    fail "kr"
    refine ⟨rfl, rfl, fun _ => ?_⟩
    fail "kr"
    refine ⟨log_small (by omega) (by have : n < 1000 := hn2; omega), ?_⟩
    exact ⟨_, frz_pu, rfl, rfl⟩
  · rw [filter_yes']
    refine .inr (.inr ⟨_, _, rfl, .inl den_ow, rfl, ?_, ?_⟩)
    · rw [List.all_eq_true]
      intro x hx
      obtain ⟨n, _, rfl⟩ := List.mem_map.mp hx
      rfl
    rw [if_neg Bool.false_ne_true, memD_words]
    have fin : tNumX [.str z] (.d (optN (numO z))) := fun z' e' => by cases e'; rfl
    cases ho : numO z with
    | none =>
      rw [ho] at fin
      fail "kr"
      exact rt_d fin
    | some n =>
      obtain ⟨h1, rfl⟩ := numO_some ho
      rw [ho] at fin
      have := (shape_num h1).2.1
      fail "kr"
      exact ⟨_, _, rfl, numW_int h1, by omega, rt_d fin⟩
def osW (a : Str) : List (Option Nat) := if a = dashS then [] else (Txt.split a (Str.ofString ",")).map numO
theorem osW_some {a : Str} {ws : List Nat} (h : wantsO a = some ws) : osW a = ws.map some := by
  unfold wantsO at h
  unfold osW
  split at h
  · rename_i e
    cases h
    rw [if_pos e]
    rfl
  · rename_i e
    rw [if_neg e]
    exact numsO_some h
theorem osW_none {a : Str} (h : wantsO a = none) : none ∈ osW a := by
  unfold wantsO at h
  unfold osW
  split at h
  · cases h
  · rename_i e
    rw [if_neg e]
    obtain ⟨z, h1, h2⟩ := numsO_none h
    exact List.mem_map.mpr ⟨z, h1, h2⟩
theorem osW_len {a : Str} : (osW a).length ≤ a.length + 1 := by
  unfold osW
  split
  · exact Nat.zero_le _
  · rw [List.length_map]; exact split_few sgn_comma
theorem any_none {os : List (Option Nat)} (h : none ∈ os) : os.any Option.isNone = true := List.any_eq_true.mpr ⟨none, h, rfl⟩
theorem any_some (ns : List Nat) : (ns.map some).any Option.isNone = false := by
  rw [List.any_eq_false]
  intro x hx
  obtain ⟨n, _, rfl⟩ := List.mem_map.mp hx
  exact Bool.false_ne_true
theorem ok__law_row (D : Df K mg "_law_row" s__law_row ["_law_row_here"]) (B : Bn mg) (c__law_number : Cal P w K mg base 1 "_law_number" (spP K 1 pNumX tNumX)) : Cal P w K mg base 2 "_law_row" (spP K 1 pRowX tRowX) := by
  have nd := sc__law_row.nd
  refine calP D sc__law_row rfl fun f cdv A outer st H E hr => ⟨_, (pss_cons (ps_set (i := 1) nd rfl (Or.inl rfl) (pe_split (pv 0) pe_str))
      (pss_cons (ps_if (pt_cmpR op_ne (pe_callB (Kk.call_len_seq (K := K)) (by rfl) B.len (by decide +kernel) (pa_cons (pv 1) pa_nil)) pe_int (nomark _)) (pss_one (ps_ret pe_non)) pss_nil)
      (pss_cons (ps_set (i := 2) nd rfl (Or.inl rfl) (pe_ifExp (pt_cmpR op_eq (pe_ix (Kk.ix_list (K := K)) (pv 1) pe_int (fun _ _ => rfl)) pe_str (nomark _)) (pe_lst pa_nil) (pe_lc (own := [("_law_word_here", 4)]) rfl nd (Kk.pi_list (K := K) (pe_split (pe_ix (Kk.ix_list (K := K)) (pv 1) pe_int (fun _ _ => rfl)) pe_str)) (blkOk_by (by kernel_rfl)) (fun _ _ _ _ _ => (pg_name (i := 4) nd rfl (by first | exact Or.inl rfl | exact Or.inr rfl))) (fun _ _ _ _ _ => pts_nil) (fun _ _ _ _ _ => (Dl.pe_c c__law_number hr (pa_cons (pv 4) pa_nil))))))
      (pss_cons (ps_setLc (own := [("_law_word_here", 4)]) (i := 3) rfl nd rfl rfl (sw_true rfl rfl rfl (by decide +kernel)) (Kk.pi_list (K := K) (pe_slice (Kk.sl_list (K := K)) (pv 1) (po_some pe_int) po_none)) (blkOk_by (by kernel_rfl)) (fun _ _ _ _ _ => (pg_name (i := 4) nd rfl (by first | exact Or.inl rfl | exact Or.inr rfl))) (fun _ _ _ _ _ => pts_nil) (fun _ _ _ _ _ => (Dl.pe_c c__law_number hr (pa_cons (pv 4) pa_nil))))
      (pss_one (ps_ret (pe_ifExp (pt_cmpR (Kk.op_in_seq (K := K)) pe_non (pe_op (Kk.op_catS (K := K)) (pv 2) (pv 3)) (by rfl)) pe_non (pe_op (Kk.op_catA (K := K)) (pe_tup (pa_cons (Kk.pe_tupleOf (K := K) (by rfl) B.tuple (pv 2)) pa_nil)) (Kk.pe_tupleOf (K := K) (by rfl) B.tuple (pv 3)))))))))), fun ds hn hp => ?_⟩
  obtain ⟨z, rfl, hz, ha⟩ := hp
  have fin : ∀ {o : Option (List Nat × List Nat)}, o = rowO z → tRowX [.str z] (.d (rowOD o)) := fun {o} e z' e' => by cases e'; rw [e]
  have hsl : sizeLine = 16777216 := rfl
  have hfew := split_few (x := z) sgn_blank
  have hpiece : ∀ q ∈ Txt.split z (Str.ofString " "), q.length ≤ 50000 ∧ asc q := fun q hq => ⟨Nat.le_trans (split_piece sgn_blank hq).1 hz, ha.piece sgn_blank hq⟩
  show ExS K _ _ [.pu (.str z), .non, .non, .non, .non]
  fail "kr"
  refine ⟨by decide +kernel, by rw [hsl]; omega, ?_⟩
  fail "kr"
  by_cases h6 : (Txt.split z (Str.ofString " ")).length = 6
  case neg =>
    have e0 : rowO z = none := by
      unfold rowO
      split
      · rename_i e; rw [e] at h6; exact absurd rfl h6
      · rfl
    rw [List.length_map, decide_eq_false (show ¬ (((Txt.split z (Str.ofString " ")).length : Int) = 6) by omega)]
    fail "kr"
    exact rt_d (fin (o := none) e0.symm)
  rw [List.length_map, decide_eq_true (show (((Txt.split z (Str.ofString " ")).length : Int) = 6) by omega)]
  obtain ⟨a, b, c, d, e, g, hs⟩ : ∃ a b c d e g, Txt.split z (Str.ofString " ") = [a, b, c, d, e, g] := by
    match Txt.split z (Str.ofString " "), h6 with
    | [a, b, c, d, e, g], _ => exact ⟨a, b, c, d, e, g, rfl⟩
  rw [hs] at hpiece ⊢
  have e0 : rowO z = (wantsO a).bind fun ws => (numsO [b, c, d, e, g]).map fun rs => (ws, rs) := by
    unfold rowO
    rw [hs]
  have ec : Dl.cutD ([a, b, c, d, e, g].map PyData.str) (some 1) none = [b, c, d, e, g].map PyData.str := rfl
  have hrest : ∀ q ∈ [b, c, d, e, g], q.length ≤ 100000 ∧ asc q := fun q hq => by
    have := hpiece q (List.mem_cons_of_mem _ hq)
    exact ⟨by omega, this.2⟩
  have hpa := hpiece a (List.mem_cons_self ..)
  refine ifF rfl ?_
  refine xs_next ?_
  show ExS K (tSeq _ _) _ [.pu (.str z), .ow (RL K ([a, b, c, d, e, g].map PyData.str)), .non, .non, .non]
  refine xs_seq (xs_mid (fun δ' => δ' = [.pu (.str z), .ow (RL K ([a, b, c, d, e, g].map PyData.str)), .ow (RL K ((osW a).map optN)), .non, .non]) ?_ ?_)
  · fail "kr"
    refine ⟨_, _, _, den_al rfl, rfl, atI_nat' (i := 0) rfl, ?_⟩
    fail "kr"
    refine ifB (fun h => ?_) (fun h => ?_)
    · have h := of_decide_eq_true h
      have eo : osW a = [] := if_pos h
      rw [eo]
      fail "kr"
      rfl
    · have h := of_decide_eq_false h
      have eo : osW a = (Txt.split a (Str.ofString ",")).map numO := if_neg h
      have hl2 := hpa.1
      have hf2 := split_few (x := a) sgn_comma
      rw [eo]
      refine ev_fL (g := PyData.str) (fun _ => true) (fun z => optN (numO z)) ?_
      fail "kr"
      refine ⟨_, _, _, den_al rfl, rfl, atI_nat' (i := 0) rfl, ?_⟩
      fail "kr"
      refine ⟨by decide +kernel, by rw [hsl]; omega, ?_⟩
      fail "kr"
      refine ⟨wip1 rfl junk_non, Nat.le_of_ble_eq_true rfl, by omega, fun q hq => ?_, ?_⟩
      · unfold Turn1C
        simp only [List.set_cons_zero, List.set_cons_succ]
        fail "kr"
        refine ⟨rfl, rfl, fun _ => ?_⟩
        refine ed_of (ev_call ?_)
        fail "kr"
        refine ⟨rfl, ⟨q, rfl, ?_, hpa.2.piece sgn_comma hq⟩, fun r hr => ?_⟩
        · have := (split_piece sgn_comma hq).1
          omega
        rw [hr q rfl]
        exact ⟨_, frz_pu, rfl, rfl⟩
      · rw [filter_yes', List.map_map]
        fail "kr"
        rfl
  · rintro _ rfl
    fail "kr"
    refine ev_fL (g := PyData.str) (fun _ => true) (fun z => optN (numO z)) ?_
    fail "kr"
    try rw [ec]
    refine ⟨_, den_ow, wip1 rfl junk_non, Nat.le_of_ble_eq_true rfl, by show 5 ≤ 100000; decide, fun q hq => ?_, ?_⟩
    · unfold Turn1C
      simp only [List.set_cons_zero, List.set_cons_succ]
      fail "kr"
      refine ⟨rfl, rfl, fun _ => ?_⟩
      refine ed_of (ev_call ?_)
      fail "kr"
      refine ⟨rfl, ⟨q, rfl, hrest q hq⟩, fun r hr => ?_⟩
      rw [hr q rfl]
      exact ⟨_, frz_pu, rfl, rfl⟩
    · rw [filter_yes', show ([b, c, d, e, g].map fun z => optN (numO z)) = ([b, c, d, e, g].map numO).map optN from by rw [List.map_map]; rfl]
      fail "kr"
      have hol := osW_len (a := a)
      have hal := hpa.1
      refine ⟨by rw [List.length_map, List.length_map, List.length_map]; show (osW a).length + 5 ≤ 100000; omega, ?_⟩
      rw [← List.map_append]
      refine .inr (.inr ⟨_, _, rfl, .inl den_ow, rfl, flat_optN _, ?_⟩)
      rw [if_neg Bool.false_ne_true, memD_optN]
      cases hw : wantsO a with
      | none =>
        rw [any_none (List.mem_append_left _ (osW_none hw))]
        fail "kr"
        exact rt_d (fin (o := none) (by rw [e0, hw]; rfl))
      | some ws =>
        have e1 := osW_some hw
        cases hr5 : numsO [b, c, d, e, g] with
        | none =>
          obtain ⟨q, h1, h2⟩ := numsO_none hr5
          rw [any_none (List.mem_append_right _ (List.mem_map.mpr ⟨q, h1, h2⟩))]
          fail "kr"
          exact rt_d (fin (o := none) (by rw [e0, hw, hr5]; rfl))
        | some rs =>
          have h5 : rs.length = 5 := numsO_len hr5
          rw [e1, numsO_some hr5, ← List.map_append, any_some, optN_ints, optN_ints]
          rw [e1, List.length_map] at hol
          fail "kr"
          refine ⟨by rw [List.length_map, iz_len]; omega, _, frz_pu, ?_⟩
          fail "kr"
          refine ⟨by rw [List.length_map, iz_len]; omega, ?_⟩
          fail "kr"
          refine ⟨by rw [List.length_map, iz_len]; show 1 + rs.length ≤ 100000; omega, ?_⟩
          exact rt_d (fin (o := some (ws, rs)) (by rw [e0, hw, hr5]; rfl))
end
end Kr

namespace Kr
open PySem PySem.Spec PyProof.Rows L2 Dl
open Evl (Ex)
open TL (tl numL)
/-! ### how long texts get -/
def wgt (l : List Str) : Nat := (l.map (·.length)).sum + l.length
theorem wgt_nil : wgt [] = 0 := rfl
theorem wgt_cons (z : Str) (l : List Str) : wgt (z :: l) = z.length + 1 + wgt l := by
  unfold wgt
  rw [List.map_cons, List.sum_cons, List.length_cons]
  omega
theorem wgt_app (a b : List Str) : wgt (a ++ b) = wgt a + wgt b := by
  induction a with
  | nil => rw [List.nil_append, wgt_nil]; omega
  | cons z a ih => rw [List.cons_append, wgt_cons, wgt_cons, ih]; omega
theorem wgt_rev (a : List Str) : wgt a.reverse = wgt a := by
  induction a with
  | nil => rfl
  | cons z a ih => rw [List.reverse_cons, wgt_app, wgt_cons, wgt_cons, wgt_nil, ih]; omega
theorem wgt_split {x y : Str} {s : Nat} (h : Sgn y s) : wgt (Txt.split x y) = x.length + 1 := split_sum h
theorem joinL_wgt {s : Nat} : ∀ {l : List Str}, (TL.joinL [s] (l.map tl)).length ≤ wgt l
  | [] => Nat.zero_le _
  | [p] => by
    rw [wgt_cons, wgt_nil, TL.len_tl]
    show (tl p).length ≤ _
    omega
  | p :: q :: r => by
    have ih := joinL_wgt (s := s) (l := q :: r)
    rw [wgt_cons]
    show (tl p ++ ([s] ++ TL.joinL [s] ((q :: r).map tl))).length ≤ _
    rw [List.length_append, List.length_append, List.length_singleton, TL.len_tl p]
    omega
theorem join_wgt {y : Str} {s : Nat} (h : Sgn y s) (l : List Str) : (Txt.join y l).length ≤ wgt l := by
  rw [TL.join_eq, TL.len_tl, TL.tl_join, h.e]
  exact joinL_wgt
theorem asc_join {y : Str} {l : List Str} (hy : asc y) (h : ∀ z ∈ l, asc z) : asc (Txt.join y l) := fun c hc => by
  rcases join_mem hc with hc | ⟨p, hp, hc⟩
  · exact hy c hc
  · exact h p hp c hc
theorem asc_app {a b : Str} (ha : asc a) (hb : asc b) : asc (a ++ b) := fun c hc => by
  rw [TL.tl_append] at hc
  rcases List.mem_append.mp hc with h | h
  · exact ha c h
  · exact hb c h
theorem asc_cut {z : Str} {lo hi : Option Int} (h : asc z) : asc (cutS z lo hi) := fun c hc => h c (List.mem_of_mem_drop (List.mem_of_mem_take (show c ∈ (z.cps.toList.drop _).take _ from hc)))
def cutL (l : List Str) (lo hi : Option Int) : List Str := (l.drop (HT.sIx l.length 0 lo)).take (HT.sIx l.length l.length hi - HT.sIx l.length 0 lo)
theorem cut_strs (l : List Str) (lo hi : Option Int) : Dl.cutD (l.map PyData.str) lo hi = (cutL l lo hi).map PyData.str := by
  unfold Dl.cutD cutL
  rw [List.length_map, List.map_take, List.map_drop]
theorem cutL_take (l : List Str) (k : Nat) : cutL l none (some (k : Int)) = l.take k := by
  unfold cutL
  rw [HT.sIx_none, HT.sIx_nat, List.drop_zero, Nat.sub_zero]
  by_cases h : k ≤ l.length
  · rw [Nat.min_eq_left h]
  · rw [Nat.min_eq_right (by omega), List.take_length, List.take_of_length_le (by omega)]
theorem cutL_drop (l : List Str) (k : Nat) : cutL l (some (k : Int)) none = l.drop k := by
  unfold cutL
  rw [HT.sIx_none, HT.sIx_nat]
  by_cases h : k ≤ l.length
  · rw [Nat.min_eq_left h, List.take_of_length_le (by rw [List.length_drop]; exact Nat.le_refl _)]
  · rw [Nat.min_eq_right (by omega), Nat.sub_self, List.take_zero, List.drop_of_length_le (by omega)]
theorem cutL_part (l : List Str) {k m : Nat} (h : k ≤ l.length) : cutL l (some (k : Int)) (some (m : Int)) = (l.drop k).take (m - k) := by
  unfold cutL
  rw [HT.sIx_nat, HT.sIx_nat, Nat.min_eq_left h]
  by_cases h2 : m ≤ l.length
  · rw [Nat.min_eq_left h2]
  · rw [Nat.min_eq_right (by omega), List.take_of_length_le (by rw [List.length_drop]; omega), List.take_of_length_le (by rw [List.length_drop]; omega)]
theorem cut_at {l : List Str} {k : Nat} (h : k < l.length) : l = l.take k ++ l[k] :: l.drop (k + 1) := by
  rw [← List.drop_eq_getElem_cons h, List.take_append_drop]
theorem wgt_at {l : List Str} {k : Nat} (h : k < l.length) : wgt l = wgt (l.take k) + (l[k].length + 1) + wgt (l.drop (k + 1)) := by
  have := congrArg wgt (cut_at h)
  rw [wgt_app, wgt_cons] at this
  omega
theorem split_pos {x y : Str} {s : Nat} (h : Sgn y s) : 0 < (Txt.split x y).length := by
  have := wgt_split (x := x) h
  cases hl : Txt.split x y with
  | nil => rw [hl, wgt_nil] at this; omega
  | cons a r => exact Nat.succ_pos _
theorem len_app (a b : Str) : (a ++ b).length = a.length + b.length := by
  rw [TL.len_tl, TL.tl_append, List.length_append, ← TL.len_tl, ← TL.len_tl]
def ascs (l : List Str) : Prop := ∀ z ∈ l, asc z
theorem ascs.app {a b : List Str} (ha : ascs a) (hb : ascs b) : ascs (a ++ b) := fun z hz => by
  rcases List.mem_append.mp hz with h | h
  · exact ha z h
  · exact hb z h
theorem ascs.take {a : List Str} (h : ascs a) (k : Nat) : ascs (a.take k) := fun z hz => h z (List.mem_of_mem_take hz)
theorem ascs.drop {a : List Str} (h : ascs a) (k : Nat) : ascs (a.drop k) := fun z hz => h z (List.mem_of_mem_drop hz)
theorem ascs.split {x y : Str} {s : Nat} (h : asc x) (hy : Sgn y s) : ascs (Txt.split x y) := fun _ hz => h.piece hy hz
abbrev sgS : Str := Str.ofString "0123456789 -,\nabcdefghijklmnopqrstuvwxyzABCDEFGHIJKLMNOPQRSTUVWXYZ!#$&()*+./:;<=>?\x40[]^_{|}~"
theorem sg_asc : ∀ c ∈ tl sgS, c < 128 := by decide +kernel
theorem sg_len : 14 ≤ sgS.length ∧ sgS.length ≤ 200 := by decide +kernel
theorem sg_at {x : Nat} (h : x < sgS.length) : ∃ c, atI sgS.cps.toList (x : Int) = some c ∧ asc (⟨#[c]⟩ : Str) := by
  have h2 : x < (tl sgS).length := by rw [← TL.len_tl]; exact h
  refine ⟨(tl sgS)[x], atI_nat' (List.getElem?_eq_getElem h2), fun c hc => ?_⟩
  have : c = (tl sgS)[x] := List.mem_singleton.mp hc
  rw [this]
  exact sg_asc _ (List.getElem_mem h2)
def oddS : List Str := ["", "0", "00", "07", "1", "9", "10", "20", "21", "50", "51", "999", "1000", "-", "-1", "0,1", "1,0", "1,", "x", "007", "012", "000"].map Str.ofString
theorem odd_ok : ∀ z ∈ oddS, z.length ≤ 4 ∧ ∀ c ∈ tl z, c < 128 := by decide +kernel
section
variable {P : Program} {w : World} {K : PySem.W.Frag} {mg : Str → Option Value} {base : Heap}
def pChg (ds : List PyData) : Prop := ∃ t : Str, ds = [.str t] ∧ t.length ≤ 20000 ∧ asc t
def tChg (ds : List PyData) (r : Rt) : Prop := ∀ t : Str, ds = [.str t] → ∃ u : Str, r = .d (.str u) ∧ u.length ≤ 2 * t.length + 8 ∧ asc u
theorem ok__law_changed (D : Df K mg "_law_changed" s__law_changed ["_law_d", "_law_text"]) (B : Bn mg) (c__law_off : Cal P w K mg base 1 "_law_off" (spDi K 1 pOff tOff)) : Cal P w K mg base 2 "_law_changed" (spDi K 1 pChg tChg) := by
  have nd := sc__law_changed.nd
  refine calDi D sc__law_changed rfl fun f cdv A outer st H E hr => ⟨_, (pss_cons (ps_set (i := 2) nd rfl (Or.inl rfl) (Dl.pe_c c__law_off hr (pa_cons (pv 0) (pa_cons pe_int pa_nil))))
      (pss_cons (ps_set (i := 3) nd rfl (Or.inl rfl) (Dl.pe_c c__law_off hr (pa_cons (pv 0) (pa_cons (pe_op op_add (pe_callB call_len_str (by rfl) B.len (by decide +kernel) (pa_cons (pv 1) pa_nil)) pe_int) pa_nil))))
      (pss_cons (ps_set (i := 4) nd rfl (Or.inl rfl) pe_str)
      (pss_cons (ps_set (i := 5) nd rfl (Or.inl rfl) (pe_ix (Kk.ix_list (K := K)) (pe_lst (pa_cons (pe_ix ix_str (pv 4) (Dl.pe_c c__law_off hr (pa_cons (pv 0) (pa_cons pe_int pa_nil))) (fun _ _ => rfl)) (pa_cons (pe_ix ix_str (pv 4) (Dl.pe_c c__law_off hr (pa_cons (pv 0) (pa_cons (pe_callB call_len_str (by rfl) B.len (by decide +kernel) (pa_cons (pv 4) pa_nil)) pa_nil))) (fun _ _ => rfl)) pa_nil))) (Dl.pe_c c__law_off hr (pa_cons (pv 0) (pa_cons pe_int pa_nil))) (fun _ _ => rfl)))
      (pss_cons (ps_if (pt_cmpR op_lt (pv 2) pe_int (nomark _)) (pss_one (ps_ret (pe_op op_add_str (pe_op op_add_str (pe_slice sl_str (pv 1) po_none (po_some (pv 3))) (pe_op Rk.op_rep01 (pv 5) (pe_callTy call_int1 (by rfl) B.int (by decide +kernel) (pa_cons (pe_cmpR op_lt (pv 2) pe_int (nomark _)) pa_nil)))) (pe_slice sl_str (pv 1) (po_some (pe_op op_add (pv 3) (pe_callTy call_int1 (by rfl) B.int (by decide +kernel) (pa_cons (pe_cmpR op_gt (pv 2) pe_int (nomark _)) pa_nil)))) po_none)))) pss_nil)
      (pss_cons (ps_set (i := 6) nd rfl (Or.inl rfl) (pe_split (pv 1) pe_str))
      (pss_cons (ps_set (i := 7) nd rfl (Or.inl rfl) (Dl.pe_c c__law_off hr (pa_cons (pv 0) (pa_cons (pe_callB (Kk.call_len_seq (K := K)) (by rfl) B.len (by decide +kernel) (pa_cons (pv 6) pa_nil)) pa_nil))))
      (pss_cons (ps_if (pt_cmpR op_lt (pv 2) pe_int (nomark _)) (pss_cons (ps_set (i := 8) nd rfl (Or.inl rfl) (pe_ix (Kk.ix_list (K := K)) (pe_lst (pa_cons (pe_lst pa_nil) (pa_cons (pe_op op_rep (pe_slice (Kk.sl_list (K := K)) (pv 6) (po_some (pv 7)) (po_some (pe_op op_add (pv 7) pe_int))) pe_int) (pa_cons (Kk.pe_revL (K := K) (pe_slice (Kk.sl_list (K := K)) (pv 6) (po_some (pv 7)) (po_some (pe_op op_add (pv 7) pe_int)))) pa_nil)))) (pe_op op_sub (pv 2) pe_int) (fun _ _ => rfl)))
      (pss_one (ps_ret (Kk.pe_join (K := K) pe_str (pe_op (Kk.op_catS (K := K)) (pe_op (Kk.op_catS (K := K)) (pe_slice (Kk.sl_list (K := K)) (pv 6) po_none (po_some (pv 7))) (pv 8)) (pe_slice (Kk.sl_list (K := K)) (pv 6) (po_some (pe_op op_add (pe_op op_add (pv 7) pe_int) (pe_callTy call_int1 (by rfl) B.int (by decide +kernel) (pa_cons (pe_cmpR op_eq (pv 2) pe_int (nomark _)) pa_nil)))) po_none)))))) pss_nil)
      (pss_cons (ps_set (i := 9) nd rfl (Or.inl rfl) (pe_split (pe_ix (Kk.ix_list (K := K)) (pv 6) (pv 7) (fun _ _ => rfl)) pe_str))
      (pss_cons (ps_set (i := 10) nd rfl (Or.inl rfl) (Dl.pe_c c__law_off hr (pa_cons (pv 0) (pa_cons (pe_callB (Kk.call_len_seq (K := K)) (by rfl) B.len (by decide +kernel) (pa_cons (pv 9) pa_nil)) pa_nil))))
      (pss_cons (ps_set (i := 11) nd rfl (Or.inl rfl) (pe_lst (pa_cons pe_str (pa_cons pe_str (pa_cons pe_str (pa_cons pe_str (pa_cons pe_str (pa_cons pe_str (pa_cons pe_str (pa_cons pe_str (pa_cons pe_str (pa_cons pe_str (pa_cons pe_str (pa_cons pe_str (pa_cons pe_str (pa_cons pe_str (pa_cons pe_str (pa_cons pe_str (pa_cons pe_str (pa_cons pe_str pa_nil))))))))))))))))))))
      (pss_cons (ps_set (i := 11) nd rfl (Or.inl rfl) (pe_op (Kk.op_catS (K := K)) (pv 11) (pe_lst (pa_cons pe_str (pa_cons pe_str (pa_cons pe_str (pa_cons pe_str pa_nil)))))))
      (pss_cons (ps_set (i := 9) nd rfl (Or.inl rfl) (pe_op (Kk.op_catS (K := K)) (pe_op (Kk.op_catS (K := K)) (pe_slice (Kk.sl_list (K := K)) (pv 9) po_none (po_some (pv 10))) (pe_ix (Kk.ix_list (K := K)) (pe_lst (pa_cons (pe_lst pa_nil) (pa_cons (pe_op op_rep (pe_slice (Kk.sl_list (K := K)) (pv 9) (po_some (pv 10)) (po_some (pe_op op_add (pv 10) pe_int))) pe_int) (pa_cons (pe_lst (pa_cons (pe_ix (Kk.ix_list (K := K)) (pv 11) (Dl.pe_c c__law_off hr (pa_cons (pv 0) (pa_cons pe_int pa_nil))) (fun _ _ => rfl)) pa_nil)) pa_nil)))) (pe_op op_sub (pv 2) pe_int) (fun _ _ => rfl))) (pe_slice (Kk.sl_list (K := K)) (pv 9) (po_some (pe_op op_add (pv 10) pe_int)) po_none)))
      (pss_one (ps_ret (Kk.pe_join (K := K) pe_str (pe_op (Kk.op_catS (K := K)) (pe_op (Kk.op_catS (K := K)) (pe_slice (Kk.sl_list (K := K)) (pv 6) po_none (po_some (pv 7))) (pe_lst (pa_cons (Kk.pe_join (K := K) pe_str (pv 9)) pa_nil))) (pe_slice (Kk.sl_list (K := K)) (pv 6) (po_some (pe_op op_add (pv 7) pe_int)) po_none)))))))))))))))))), fun d ds hn hp => ?_⟩
  obtain ⟨t, rfl, ht, ha⟩ := hp
  have hsl : sizeLine = 16777216 := rfl
  have fin : ∀ {u : Str}, u.length ≤ 2 * t.length + 8 → asc u → tChg [.str t] (.d (.str u)) := fun {u} h1 h2 t' e => by cases e; exact ⟨u, rfl, h1, h2⟩
  show ExS K _ _ [.ow (RDi d), .pu (.str t), .non, .non, .non, .non, .non, .non, .non, .non, .non, .non]
  fail "kr"
  intro kind hkind
  fail "kr"
  refine ⟨by rw [hsl]; omega, ?_⟩
  fail "kr"
  refine ⟨rfl, _, rfl, by omega, by omega, fun at_ hat => ?_⟩
  have hsg : 14 ≤ sgS.length ∧ sgS.length ≤ 200 := sg_len
  refine ⟨Nat.le_of_ble_eq_true rfl, _, rfl, ?_⟩
  show ExS K (tSeq _ (tSeq _ _)) _ [.ow (RDi d), .pu (.str t), .pu (.int kind), .pu (.int at_), .non, .non, .non, .non, .non, .non, .non, .non]
  refine xs_seq (xs_mid (fun δ' => δ' = [.ow (RDi d), .pu (.str t), .pu (.int kind), .pu (.int at_), .pu (.str sgS), .non, .non, .non, .non, .non, .non, .non]) ?_ ?_)
  · fail "kr"
    rfl
  rintro _ rfl
  refine xs_seq (xs_mid (fun δ' => ∃ c : Nat, asc (⟨#[c]⟩ : Str) ∧ δ' = [.ow (RDi d), .pu (.str t), .pu (.int kind), .pu (.int at_), .pu (.str sgS), .pu (.str ⟨#[c]⟩), .non, .non, .non, .non, .non, .non]) ?_ ?_)
  · fail "kr"
    intro x1 hx1
    obtain ⟨c1, hc1, ha1⟩ := sg_at (x := x1) (by omega)
    have hs1 : sgS.length ≤ sizeLine := by rw [hsl]; exact Nat.le_trans hsg.2 (by decide)
    refine ⟨_, _, c1, rfl, rfl, hs1, hc1, ?_⟩
    fail "kr"
    refine ⟨hs1, rfl, _, rfl, ?_, ?_, fun x2 hx2 => ?_⟩
    · show (0 : Int) < (sgS.length : Int)
      omega
    · show (sgS.length : Int) < 1073741824
      omega
    have hx2 : (x2 : Int) < (sgS.length : Int) := hx2
    obtain ⟨c2, hc2, ha2⟩ := sg_at (x := x2) (by omega)
    refine ⟨_, _, c2, rfl, rfl, hs1, hc2, ?_⟩
    fail "kr"
    intro x3 hx3
    have h3 : x3 = 0 ∨ x3 = 1 := by omega
    rcases h3 with rfl | rfl
    · refine ⟨_, _, _, den_ow, rfl, atI_nat' (i := 0) rfl, ?_⟩
      fail "kr"
      exact ⟨c1, ha1, rfl⟩
    · refine ⟨_, _, _, den_ow, rfl, atI_nat' (i := 1) rfl, ?_⟩
      fail "kr"
      exact ⟨c2, ha2, rfl⟩
  rintro _ ⟨c, hac, rfl⟩
  fail "kr"
  have htz : t.length ≤ sizeLine := by rw [hsl]; omega
  have hc1 : (⟨#[c]⟩ : Str).length = 1 := rfl
  refine ifB (fun hk3 => ?_) (fun hk3 => ?_)
  · fail "kr"
    refine ⟨htz, ?_⟩
    fail "kr"
    generalize hq : (if decide ((kind : Int) < 2) = true then (⟨#[c]⟩ : Str) else Str.empty) = q
    have hq1 : q.length ≤ 1 ∧ asc q := by
      rw [← hq]
      split
      · exact ⟨Nat.le_of_eq hc1, hac⟩
      · exact ⟨by decide, fun c hc => nomatch hc⟩
    have hcl := cutS_length t none (some (at_ : Int))
    refine ⟨by rw [hsl]; omega, ?_⟩
    fail "kr"
    refine ⟨htz, ?_⟩
    fail "kr"
    have hcl2 := cutS_length t (some ((at_ : Int) + if decide ((0 : Int) < (kind : Int)) = true then 1 else 0)) none
    refine ⟨?_, ?_⟩
    · rw [hsl, len_app]
      omega
    exact ⟨rt_d (fin (by rw [len_app, len_app]; omega) (asc_app (asc_app (asc_cut ha) hq1.2) (asc_cut ha))), rfl, fun z => nomatch z⟩
  have hk3 := of_decide_eq_false hk3
  fail "kr"
  refine ⟨by decide +kernel, by rw [hsl]; omega, ?_⟩
  generalize hrows : Txt.split t (Str.ofString "\n") = l
  have hw := wgt_split (x := t) sgn_line
  have hlp := split_pos (x := t) sgn_line
  have hla : ascs l := hrows ▸ ascs.split ha sgn_line
  rw [hrows] at hw hlp
  have hlw : l.length ≤ wgt l := Nat.le_add_left _ _
  fail "kr"
  refine ⟨rfl, _, rfl, by rw [List.length_map]; omega, by rw [List.length_map]; omega, fun k hk => ?_⟩
  rw [List.length_map] at hk
  have hk : k < l.length := by omega
  fail "kr"
  have hwk := wgt_at hk
  have c1 : cutL l (some (k : Int)) (some ((k : Int) + 1)) = [l[k]] := by
    rw [show ((k : Int) + 1) = ((k + 1 : Nat) : Int) by omega, cutL_part l (by omega), show k + 1 - k = 1 by omega, List.drop_eq_getElem_cons hk]
    rfl
  have c2 : cutL l (some (k : Int)) (some ((k : Int) + 2)) = (l.drop k).take 2 := by
    rw [show ((k : Int) + 2) = ((k + 2 : Nat) : Int) by omega, cutL_part l (by omega), show k + 2 - k = 2 by omega]
  refine ifB (fun hk6 => ?_) (fun hk6 => ?_)
  · have hk6 := of_decide_eq_true hk6
    refine xs_seq (xs_mid (fun δ' => ∃ two : List Str, ascs two ∧ two.length ≤ l.length + 2 ∧ wgt (l.take k) + wgt two + wgt (l.drop (k + 1 + if decide ((kind : Int) = 5) = true then 1 else 0)) ≤ 2 * wgt l ∧ δ' = [.ow (RDi d), .pu (.str t), .pu (.int kind), .pu (.int at_), .pu (.str sgS), .pu (.str ⟨#[c]⟩), .ow (RL K (l.map PyData.str)), .pu (.int k), .pu (.list (two.map PyData.str)), .non, .non, .non]) ?_ ?_)
    · fail "kr"
      rw [cut_strs, c1]
      refine ⟨by decide, by decide, by show 1 * 2 ≤ 100000; decide, _, frz_ow, ?_⟩
      fail "kr"
      rw [cut_strs, c2]
      have hkk : kind = 3 ∨ kind = 4 ∨ kind = 5 := by omega
      have hak : asc l[k] := hla _ (List.getElem_mem hk)
      rcases hkk with rfl | rfl | rfl
      · refine ⟨_, _, _, den_ow, rfl, atI_nat' (i := 0) rfl, ?_⟩
        fail "kr"
        refine ⟨[], (fun _ h => nomatch h), Nat.zero_le _, ?_, rfl⟩
        rw [wgt_nil]
        show wgt (l.take k) + 0 + wgt (l.drop (k + 1)) ≤ _
        omega
      · refine ⟨_, _, _, den_ow, rfl, atI_nat' (i := 1) rfl, ?_⟩
        fail "kr"
        refine ⟨[l[k], l[k]], fun z hz => ?_, Nat.le_add_left _ _, ?_, rfl⟩
        · rcases List.mem_cons.mp hz with rfl | hz
          · exact hak
          · rw [List.mem_singleton.mp hz]; exact hak
        · rw [wgt_cons, wgt_cons, wgt_nil]
          show wgt (l.take k) + _ + wgt (l.drop (k + 1)) ≤ _
          omega
      · refine ⟨_, _, _, den_ow, rfl, atI_nat' (i := 2) rfl, ?_⟩
        fail "kr"
        refine ⟨((l.drop k).take 2).reverse, fun z hz => (hla.drop k).take 2 z (List.mem_reverse.mp hz), ?_, ?_, ?_⟩
        · rw [List.length_reverse, List.length_take, List.length_drop]
          omega
        · rw [wgt_rev]
          show wgt (l.take k) + wgt ((l.drop k).take 2) + wgt (l.drop (k + 1 + 1)) ≤ _
          have h1 := congrArg wgt (List.take_append_drop k l)
          have h2 := congrArg wgt (List.take_append_drop 2 (l.drop k))
          rw [wgt_app] at h1 h2
          rw [List.drop_drop] at h2
          have : k + 1 + 1 = k + 2 := rfl
          rw [this]
          omega
        · rw [List.map_reverse]
          rfl
    · rintro _ ⟨two, hta, htl, htw, rfl⟩
      fail "kr"
      have e1 : Dl.cutD (l.map PyData.str) none (some (k : Int)) = (l.take k).map PyData.str := by rw [cut_strs, cutL_take]
      have hl1 : (l.take k).length ≤ l.length := List.length_take_le' ..
      rw [e1]
      refine ⟨_, _, den_ow, den_pu, by rw [List.length_map, List.length_map]; omega, ?_⟩
      rw [← List.map_append]
      fail "kr"
      have e2 : Dl.cutD (l.map PyData.str) (some ((k : Int) + 1 + if decide ((kind : Int) = 5) = true then 1 else 0)) none = (l.drop (k + 1 + if decide ((kind : Int) = 5) = true then 1 else 0)).map PyData.str := by
        rw [show ((k : Int) + 1 + if decide ((kind : Int) = 5) = true then 1 else 0) = ((k + 1 + if decide ((kind : Int) = 5) = true then 1 else 0 : Nat) : Int) by split <;> omega, cut_strs, cutL_drop]
      generalize hm : (k + 1 + if decide ((kind : Int) = 5) = true then 1 else 0) = m at e2 htw
      have hl2 : (l.drop m).length ≤ l.length := by rw [List.length_drop]; omega
      rw [e2]
      refine ⟨by rw [List.length_map, List.length_map, List.length_append]; omega, ?_⟩
      rw [← List.map_append]
      generalize hfu : l.take k ++ two ++ l.drop m = full
      have hfw : wgt full ≤ 2 * wgt l := by rw [← hfu, wgt_app, wgt_app]; exact htw
      have hfa : ascs full := hfu ▸ ((hla.take k).app hta).app (hla.drop m)
      have hjl := join_wgt sgn_line full
      have h1 : (Str.ofString "\n").length = 1 := by decide +kernel
      refine ⟨full, .inl den_ow, ?_, ?_⟩
      · rw [h1]
        have : wgt full = (full.map (·.length)).sum + full.length := rfl
        omega
      exact ⟨rt_d (fin (by omega) (asc_join (fun c hc => by have : ∀ c ∈ tl (Str.ofString "\n"), c < 128 := by decide +kernel
                                                            exact this c hc) hfa)), rfl, fun z => nomatch z⟩
  have hk6 := of_decide_eq_false hk6
  fail "kr"
  refine ⟨_, _, _, den_al rfl, rfl, atI_nat' (i := k) (by rw [List.getElem?_map, List.getElem?_eq_getElem hk]; rfl), ?_⟩
  fail "kr"
  have hlk : l[k].length ≤ t.length := by
    have := (split_piece (x := t) (z := l[k]) sgn_line (by rw [hrows]; exact List.getElem_mem hk)).1
    exact this
  refine ⟨by decide +kernel, by rw [hsl]; omega, ?_⟩
  generalize hwords : Txt.split l[k] (Str.ofString " ") = ws
  have hww := wgt_split (x := l[k]) sgn_blank
  have hwp := split_pos (x := l[k]) sgn_blank
  have hwa : ascs ws := hwords ▸ ascs.split (hla _ (List.getElem_mem hk)) sgn_blank
  rw [hwords] at hww hwp
  have hwl : ws.length ≤ wgt ws := Nat.le_add_left _ _
  fail "kr"
  refine ⟨rfl, _, rfl, by rw [List.length_map]; omega, by rw [List.length_map]; omega, fun j hj => ?_⟩
  rw [List.length_map] at hj
  have hj : j < ws.length := by omega
  fail "kr"
  refine ⟨by show 18 + 4 ≤ 100000; decide, ?_⟩
  refine ⟨Nat.le_of_ble_eq_true rfl, _, rfl, ?_⟩
  show ExS K (tSeq _ _) _ [.ow (RDi d), .pu (.str t), .pu (.int kind), .pu (.int at_), .pu (.str sgS), .pu (.str ⟨#[c]⟩), .ow (RL K (l.map PyData.str)), .pu (.int k), .non, .ow (RL K (ws.map PyData.str)), .pu (.int j), .ow (RL K (oddS.map PyData.str))]
  refine xs_seq (xs_mid (fun δ' => ∃ w2 : List Str, ascs w2 ∧ w2.length ≤ ws.length + 2 ∧ wgt w2 ≤ 2 * wgt ws + 5 ∧ δ' = [.ow (RDi d), .pu (.str t), .pu (.int kind), .pu (.int at_), .pu (.str sgS), .pu (.str ⟨#[c]⟩), .ow (RL K (l.map PyData.str)), .pu (.int k), .non, .ow (RL K (w2.map PyData.str)), .pu (.int j), .ow (RL K (oddS.map PyData.str))]) ?_ ?_)
  · fail "kr"
    have c1j : cutL ws (some (j : Int)) (some ((j : Int) + 1)) = [ws[j]] := by
      rw [show ((j : Int) + 1) = ((j + 1 : Nat) : Int) by omega, cutL_part ws (by omega), show j + 1 - j = 1 by omega, List.drop_eq_getElem_cons hj]
      rfl
    have haj : asc ws[j] := hwa _ (List.getElem_mem hj)
    have hwj := wgt_at hj
    rw [cut_strs, c1j]
    refine ⟨by decide, by decide, by show 1 * 2 ≤ 100000; decide, _, frz_ow, ?_⟩
    fail "kr"
    intro x hx
    have hx : x < oddS.length := by show x < 22; omega
    obtain ⟨ho1, ho2⟩ := odd_ok oddS[x] (List.getElem_mem hx)
    refine ⟨_, _, _, den_al rfl, rfl, atI_nat' (i := x) (by rw [List.getElem?_map, List.getElem?_eq_getElem hx]; rfl), ?_⟩
    fail "kr"
    obtain ⟨two, hat2, hta, htl, htw⟩ : ∃ two : List Str, atI [PyData.list [], PyData.list ([ws[j], ws[j]].map PyData.str), PyData.list [PyData.str oddS[x]]] ((kind : Int) - 6) = some (PyData.list (two.map PyData.str)) ∧ ascs two ∧ two.length ≤ 2 ∧ wgt two ≤ 2 * (ws[j].length + 1) + 5 := by
      have hkk : kind = 6 ∨ kind = 7 ∨ kind = 8 := by omega
      rcases hkk with rfl | rfl | rfl
      · exact ⟨[], atI_nat' (i := 0) rfl, (fun _ h => nomatch h), Nat.zero_le _, Nat.zero_le _⟩
      · refine ⟨[ws[j], ws[j]], atI_nat' (i := 1) rfl, fun z hz => ?_, Nat.le_refl _, ?_⟩
        · rcases List.mem_cons.mp hz with rfl | hz
          · exact haj
          · rw [List.mem_singleton.mp hz]; exact haj
        · rw [wgt_cons, wgt_cons, wgt_nil]; omega
      · refine ⟨[oddS[x]], atI_nat' (i := 2) rfl, fun z hz => ?_, Nat.le_succ _, ?_⟩
        · rw [List.mem_singleton.mp hz]; exact ho2
        · rw [wgt_cons, wgt_nil]; omega
    refine ⟨_, _, _, den_ow, rfl, hat2, ?_⟩
    have e1 : Dl.cutD (ws.map PyData.str) none (some (j : Int)) = (ws.take j).map PyData.str := by rw [cut_strs, cutL_take]
    have hl1 : (ws.take j).length ≤ ws.length := List.length_take_le' ..
    rw [e1]
    refine ⟨_, _, den_ow, den_pu, by rw [List.length_map, List.length_map]; omega, ?_⟩
    rw [← List.map_append]
    fail "kr"
    have e2 : Dl.cutD (ws.map PyData.str) (some ((j : Int) + 1)) none = (ws.drop (j + 1)).map PyData.str := by
      rw [show ((j : Int) + 1) = ((j + 1 : Nat) : Int) by omega, cut_strs, cutL_drop]
    have hl2 : (ws.drop (j + 1)).length ≤ ws.length := by rw [List.length_drop]; omega
    rw [e2]
    refine ⟨by rw [List.length_map, List.length_map, List.length_append]; omega, ?_⟩
    rw [← List.map_append]
    fail "kr"
    refine ⟨ws.take j ++ two ++ ws.drop (j + 1), ((hwa.take j).app hta).app (hwa.drop _), ?_, ?_, rfl⟩
    · rw [List.length_append, List.length_append, List.length_take, List.length_drop]
      omega
    · rw [wgt_app, wgt_app]
      omega
  rintro _ ⟨w2, hwa2, hwl2, hww2, rfl⟩
  fail "kr"
  have hb1 : (Str.ofString " ").length = 1 := by decide +kernel
  have hww3 : wgt w2 = (w2.map (·.length)).sum + w2.length := rfl
  have hjw := join_wgt sgn_blank w2
  have hja : asc (Txt.join (Str.ofString " ") w2) := asc_join (fun c hc => by have : ∀ c ∈ tl (Str.ofString " "), c < 128 := by decide +kernel
                                                                              exact this c hc) hwa2
  refine ⟨by rw [hb1]; omega, _, frz_pu, ?_⟩
  fail "kr"
  have e1 : Dl.cutD (l.map PyData.str) none (some (k : Int)) = (l.take k).map PyData.str := by rw [cut_strs, cutL_take]
  have hl1 : (l.take k).length ≤ l.length := List.length_take_le' ..
  have e2 : Dl.cutD (l.map PyData.str) (some ((k : Int) + 1)) none = (l.drop (k + 1)).map PyData.str := by
    rw [show ((k : Int) + 1) = ((k + 1 : Nat) : Int) by omega, cut_strs, cutL_drop]
  have hl2 : (l.drop (k + 1)).length ≤ l.length := by rw [List.length_drop]; omega
  generalize hrw : Txt.join (Str.ofString " ") w2 = rw_ at hjw hja
  rw [e1]
  refine ⟨by rw [List.length_map]; show (l.take k).length + 1 ≤ 100000; omega, ?_⟩
  fail "kr"
  rw [e2, show (l.take k).map PyData.str ++ [PyData.str rw_] = (l.take k ++ [rw_]).map PyData.str from by rw [List.map_append]; rfl]
  refine ⟨by rw [List.length_map, List.length_map, List.length_append, List.length_singleton]; omega, ?_⟩
  rw [← List.map_append]
  generalize hfu : l.take k ++ [rw_] ++ l.drop (k + 1) = full
  have hfw : wgt full = wgt (l.take k) + (rw_.length + 1) + wgt (l.drop (k + 1)) := by rw [← hfu, wgt_app, wgt_app, wgt_cons, wgt_nil]
  have hfa : ascs full := hfu ▸ ((hla.take k).app (fun z hz => by rw [List.mem_singleton.mp hz]; exact hja)).app (hla.drop (k + 1))
  have hjl := join_wgt sgn_line full
  have h1 : (Str.ofString "\n").length = 1 := by decide +kernel
  refine ⟨full, .inl den_ow, ?_, ?_⟩
  · rw [h1]
    have : wgt full = (full.map (·.length)).sum + full.length := rfl
    omega
  exact ⟨rt_d (fin (by omega) (asc_join (fun c hc => by have : ∀ c ∈ tl (Str.ofString "\n"), c < 128 := by decide +kernel
                                                        exact this c hc) hfa)), rfl, fun z => nomatch z⟩
end
end Kr

namespace Kr
open PySem PySem.Spec PyProof.Rows L2 Dl
open TL (tl numL)
/-! ### how long a plan's text is at the most -/
theorem wgt_le {b : Nat} : ∀ {l : List Str}, (∀ z ∈ l, z.length ≤ b) → wgt l ≤ l.length * (b + 1)
  | [], _ => Nat.zero_le _
  | z :: l, h => by
    have h1 := h z (List.mem_cons_self ..)
    have h2 := wgt_le (l := l) fun y hy => h y (List.mem_cons_of_mem _ hy)
    rw [wgt_cons, List.length_cons, Nat.add_mul]
    omega
theorem sgn_blankS : Sgn blankS 32 := sgn_blank
theorem sgn_lineS : Sgn lineS 10 := sgn_line
theorem sgn_commaS : Sgn commaS 44 := sgn_comma
theorem wantsW_tight {m i : Nat} {s : Svc} (h : GoodS m i s) (hm : m ≤ 12) : (wantsW s).length ≤ 36 := by
  unfold wantsW
  by_cases e : s.wants = []
  · rw [if_pos e]
    exact by decide +kernel
  · rw [if_neg e]
    have h1 := join_wgt sgn_commaS (s.wants.map fun (n : Nat) => numI (n : Int))
    have h2 := wgt_le (b := 2) fun z hz => (wants_words h hm z hz).1
    rw [List.length_map] at h2
    have h3 := h.few
    omega
theorem rowT_tight {m i : Nat} {s : Svc} (h : GoodS m i s) (hm : m ≤ 12) : (rowT s).length ≤ 52 := by
  have h1 := join_wgt sgn_blankS (wordsOf s)
  have h2 : wgt ((partsOf s).map numI) ≤ 5 * (2 + 1) := by
    have := wgt_le (b := 2) (l := (partsOf s).map numI) fun z hz => by
      obtain ⟨x, hx, rfl⟩ := List.mem_map.mp hz
      obtain ⟨n, rfl, hn⟩ := h.num hm x hx
      exact numI_len hn
    exact this
  have h3 := wantsW_tight h hm
  have h4 : wgt (wordsOf s) = (wantsW s).length + 1 + wgt ((partsOf s).map numI) := wgt_cons _ _
  unfold rowT
  omega
theorem text_tight {p : Pl} (h : Sound p) : (textOf p).length ≤ 636 := by
  have h1 := join_wgt sgn_lineS (p.map rowT)
  have h2 := wgt_le (b := 52) (l := p.map rowT) fun z hz => by
    obtain ⟨s, hs, rfl⟩ := List.mem_map.mp hz
    obtain ⟨i, hi⟩ := List.mem_iff_getElem?.mp hs
    exact rowT_tight (h.svc i s hi) h.few
  rw [List.length_map] at h2
  have := h.few
  unfold textOf
  omega
theorem text_asc {p : Pl} (h : Sound p) : asc (textOf p) := asc_join (fun c hc => by
    have : ∀ c ∈ tl lineS, c < 128 := by decide +kernel
    exact this c hc) fun z hz => by
  obtain ⟨s, hs, rfl⟩ := List.mem_map.mp hz
  obtain ⟨i, hi⟩ := List.mem_iff_getElem?.mp hs
  intro c hc
  have := (row_ok (h.svc i s hi) h.few).2 c hc
  omega
end Kr

namespace Kr
open PySem PySem.Spec PyProof.Rows L2 Dl
section
variable {P : Program} {w : World} {K : PySem.W.Frag} {mg : Str → Option Value} {base : Heap}
theorem ok_x_BadPlan {C CB : Addr} (D : DfX K mg C "BadPlan" "number" "BadPlan.__init__" s_BadPlan___init__) (DB : DfB K mg CB "KeepError") : Xr.XTxt P w K mg base "BadPlan" "number" C := by
  obtain ⟨mc, rK, eK⟩ := DB.ex
  have gK := DB.gC
  exact txtX D sc_BadPlan___init__ fun fI cdv A outer s H E => pss_cons (ps_expr (Xr.pe_ownInit (by rfl) gK rK eK (pa_cons (pv 0) (pa_cons (pv 1) pa_nil)))) (pss_one (ps_ost (pv 0) (pv 1)))
theorem ok_x_BadRing {C CB : Addr} (D : DfX K mg C "BadRing" "ring" "BadRing.__init__" s_BadRing___init__) (DB : DfB K mg CB "KeepError") : Xr.XTxt P w K mg base "BadRing" "ring" C := by
  obtain ⟨mc, rK, eK⟩ := DB.ex
  have gK := DB.gC
  exact txtX D sc_BadRing___init__ fun fI cdv A outer s H E => pss_cons (ps_expr (Xr.pe_ownInit (by rfl) gK rK eK (pa_cons (pv 0) (pa_cons (pv 1) pa_nil)))) (pss_one (ps_ost (pv 0) (pv 1)))
theorem ok_x_BadLog {C CB : Addr} (D : DfX K mg C "BadLog" "row" "BadLog.__init__" s_BadLog___init__) (DB : DfB K mg CB "KeepError") : Xr.XTxt P w K mg base "BadLog" "row" C := by
  obtain ⟨mc, rK, eK⟩ := DB.ex
  have gK := DB.gC
  exact txtX D sc_BadLog___init__ fun fI cdv A outer s H E => pss_cons (ps_expr (Xr.pe_ownInit (by rfl) gK rK eK (pa_cons (pv 0) (pa_cons (pv 1) pa_nil)))) (pss_one (ps_ost (pv 0) (pv 1)))
theorem ok_x_BadText {C CB : Addr} (D : DfX K mg C "BadText" "row" "BadText.__init__" s_BadText___init__) (DB : DfB K mg CB "KeepError") : Xr.XTxt P w K mg base "BadText" "row" C := by
  obtain ⟨mc, rK, eK⟩ := DB.ex
  have gK := DB.gC
  exact txtX D sc_BadText___init__ fun fI cdv A outer s H E => pss_cons (ps_expr (Xr.pe_ownInit (by rfl) gK rK eK (pa_cons (pv 0) (pa_cons (pv 1) pa_nil)))) (pss_one (ps_ost (pv 0) (pv 1)))
end
end Kr

namespace Kr
open PySem PySem.Spec PyProof.Rows L2 Dl Lmx LamX
open Evl (Ex)
local macro_rules | `(tactic| fail "kx1") => `(tactic| first
  | (refine Dl.ev_isX rfl (by assumption) (by assumption) (fun u h => h) (by assumption) ?_)
  | (refine Dl.ev_isX rfl (by assumption) (by assumption) (fun u h => by cases h; rfl) (by assumption) ?_)
  | (refine Dl.ev_countB ?_)
  | (refine Dl.ev_indexD ?_)
  | fail "kr1")
local macro_rules | `(tactic| fail "kx") => `(tactic| repeat fail "kx1")
theorem word_gives {P : Program} {w : World} {K : PySem.W.Frag} {mg : Str → Option Value} {base : Heap} {N0 : List Str} {q0 : Str} {sc0 : Scope} {f0 : Addr} {cd0 : Value} {A0 : Around} {out0 : List Env} {st0 : Shared} {H0 : Hp} {E00 : XK} {g : Addr} {cdg : Value} {Z : XA} (B : Bn mg) (bVE : mg "ValueError" = none) (T : ZOk K mg Z) :
    GivesW (cxOf CX0 P w K mg base N0 q0 sc0 f0 cd0 A0 out0 st0 H0 E00).nox ["_law_work", "e", "_law_kinds", "_law_word_here"] "_law_word" (defScope s__law_word) g cdg (defBody s__law_word) "_law_work" (TTword K Z) := by
  intro f F dn s H Q tl hcall hat hr hT
  have nd := sc__law_word.nd
  have hu1 : ((A0.deeper (envOfC q0 sc0 st0.heap.objs.size f0 cd0)).deeper (envOfC "_law_word" (defScope s__law_word) s.heap.objs.size g cdg)).units + 1 < cLine := by
    have h0 : ((A0.deeper (envOfC q0 sc0 st0.heap.objs.size f0 cd0)).deeper (envOfC "_law_word" (defScope s__law_word) s.heap.objs.size g cdg)).units + 16 * 1 + 200 < cLine := hr.un
    omega
  have hu65 : ((A0.deeper (envOfC q0 sc0 st0.heap.objs.size f0 cd0)).deeper (envOfC "_law_word" (defScope s__law_word) s.heap.objs.size g cdg)).units + 65 < cLine := by
    have h0 : ((A0.deeper (envOfC q0 sc0 st0.heap.objs.size f0 cd0)).deeper (envOfC "_law_word" (defScope s__law_word) s.heap.objs.size g cdg)).units + 16 * 1 + 200 < cLine := hr.un
    omega
  have gK := T.gK
  have g_BadPlan : ∃ u, mg "BadPlan" = some u ∧ RelV (.ref Z.plan) u := ⟨_, T.g0, rfl⟩
  have g_BadRing : ∃ u, mg "BadRing" = some u ∧ RelV (.ref Z.ring) u := ⟨_, T.g1, rfl⟩
  have g_BadService : ∃ u, mg "BadService" = some u ∧ RelV (.ref Z.service) u := ⟨_, T.g2, rfl⟩
  have g_BadBeats : ∃ u, mg "BadBeats" = some u ∧ RelV (.ref Z.beats) u := ⟨_, T.g3, rfl⟩
  have g_BadLog : ∃ u, mg "BadLog" = some u ∧ RelV (.ref Z.log) u := ⟨_, T.g4, rfl⟩
  have g_BadText : ∃ u, mg "BadText" = some u ∧ RelV (.ref Z.text) u := ⟨_, T.g5, rfl⟩
  refine ⟨_, pss_cons (ps_try_as (i := 1) (c := .ref Z.keep) (tb := fun W => tDrop (fun σZ HZ Q => σZ[0]? = some (some (.ref f)) ∧ AtL HZ f F dn ∧ tl (WE W σZ) HZ Q)) (Wout := fun _ _ _ _ => False) rfl rfl nd rfl rfl ⟨rfl, by decide, .inl gK⟩ L2.takes0
    (fun W pn xe tk _ => pss_one (ps_expr (hcall W pn xe (WE W) _ _ tk fun _ _ _ _ h => h)))
    (fun a oe cls d pn hz hf => (pss_cons (ps_set (i := 2) nd rfl (Or.inl rfl) (pe_lst (pa_cons (pe_callB (Xr.call_isX hz hf) (by rfl) B.isinstance (by decide +kernel) (pa_cons (pv 1) (pa_cons (C8.pe_gc (by rfl) g_BadPlan) pa_nil))) (pa_cons (pe_callB (Xr.call_isX hz hf) (by rfl) B.isinstance (by decide +kernel) (pa_cons (pv 1) (pa_cons (C8.pe_gc (by rfl) g_BadRing) pa_nil))) (pa_cons (pe_callB (Xr.call_isX hz hf) (by rfl) B.isinstance (by decide +kernel) (pa_cons (pv 1) (pa_cons (C8.pe_gc (by rfl) g_BadService) pa_nil))) (pa_cons (pe_callB (Xr.call_isX hz hf) (by rfl) B.isinstance (by decide +kernel) (pa_cons (pv 1) (pa_cons (C8.pe_gc (by rfl) g_BadBeats) pa_nil))) pa_nil))))))
      (pss_cons (ps_set (i := 2) nd rfl (Or.inl rfl) (pe_op (Kk.op_catS (K := K)) (pv 2) (pe_lst (pa_cons (pe_callB (Xr.call_isX hz hf) (by rfl) B.isinstance (by decide +kernel) (pa_cons (pv 1) (pa_cons (C8.pe_gc (by rfl) g_BadLog) pa_nil))) (pa_cons (pe_callB (Xr.call_isX hz hf) (by rfl) B.isinstance (by decide +kernel) (pa_cons (pv 1) (pa_cons (C8.pe_gc (by rfl) g_BadText) pa_nil))) pa_nil)))))
      (pss_cons (ps_if (PW.pt (pw_or (pt_cmpR op_ne (Kk.pe_bm (K := K) PySem.F.plainAttrs_list PySem.F.slot_list_count PySem.F.type_list_count (Kk.mt_lcountB (K := K) hu1) (pv 2) (pa_cons pe_bl pa_nil)) pe_int (nomark _)) (pw_or1 (pt_not (pt_val (pe_callB (Xr.call_isX hz hf) (by rfl) B.isinstance (by decide +kernel) (pa_cons (pv 1) (pa_cons (pe_bltn (v := .ty "ValueError") (u := .type "ValueError") (by rfl) bVE (by decide +kernel) rfl) pa_nil)))))))) (pss_one (ps_ret (pe_tup (pa_cons pe_str (pa_cons pe_int pa_nil))))) pss_nil)
      (pss_cons (ps_set (i := 3) nd rfl (Or.inl rfl) (pe_ix (Kk.ix_list (K := K)) (pe_lst (pa_cons pe_str (pa_cons pe_str (pa_cons pe_str (pa_cons pe_str (pa_cons pe_str (pa_cons pe_str pa_nil))))))) (Kk.pe_bm (K := K) PySem.F.plainAttrs_list PySem.F.slot_list_index PySem.F.type_list_index (Kk.mt_indexD (K := K) hu65) (pv 2) (pa_cons pe_bl pa_nil)) (fun _ _ => rfl)))
      (pss_cons (ps_if (pt_cmpR op_eq (pv 3) pe_str (nomark _)) (pss_one (ps_ret (pe_tup (pa_cons (pv 3) (pa_cons (Xr.pe_xg hz hf (pv 1)) pa_nil))))) pss_nil)
      (pss_cons (ps_if (pt_cmpR op_eq (pv 3) pe_str (nomark _)) (pss_one (ps_ret (pe_tup (pa_cons (pv 3) (pa_cons (Xr.pe_xg hz hf (pv 1)) pa_nil))))) pss_nil)
      (pss_one (ps_ret (pe_tup (pa_cons (pv 3) (pa_cons (pe_ifExp (pt_cmpR (Kk.op_in_seq (K := K)) (pv 3) (pe_tup (pa_cons pe_str (pa_cons pe_str pa_nil))) (by rfl)) (Xr.pe_xg hz hf (pv 1)) pe_int) pa_nil))))))))))))) (pss_one (ps_ret pe_non)), ?_⟩
  refine ⟨rfl, hat, hT _ fun cls d H' ⟨x, B', eB, hx, k⟩ => ?_⟩
  refine ⟨true, by rw [hx.1]; exact T.ek x, fun _ a na => ?_, fun z => nomatch z⟩
  refine suite_end (K := K) (x := x) (Q := Q) (by rfl) (by rfl) eB hx (fun w => ?_) k rfl
  have ec := hx.1
  have hE := T.is x
  have ve := T.ve x
  have k0 := T.k0 x
  have k1 := T.k1 x
  have k2 := T.k2 x
  have k3 := T.k3 x
  have k4 := T.k4 x
  have k5 := T.k5 x
  cases x with
  | plan z =>
    have ec : cls = .ref Z.plan := ec
    have hE : ExcC K Z.plan := hE
    have k0 : PySem.W.kitOne K (.ref Z.plan) (.ref Z.plan) = some true := k0
    have k1 : PySem.W.kitOne K (.ref Z.plan) (.ref Z.ring) = some false := k1
    have k2 : PySem.W.kitOne K (.ref Z.plan) (.ref Z.service) = some false := k2
    have k3 : PySem.W.kitOne K (.ref Z.plan) (.ref Z.beats) = some false := k3
    have k4 : PySem.W.kitOne K (.ref Z.plan) (.ref Z.log) = some false := k4
    have k5 : PySem.W.kitOne K (.ref Z.plan) (.ref Z.text) = some false := k5
    have ve : PySem.W.kitOne K (.ref Z.plan) (.type "ValueError") = some true := ve
    fail "kx"
    refine ⟨Nat.le_of_ble_eq_true rfl, ?_⟩
    fail "kx"
    refine ⟨[true, false, false, false, false, false], den_al rfl, ?_⟩
    fail "kx"
    refine ⟨true, den_al rfl, rfl, ?_⟩
    fail "kx"
    refine ⟨_, 0, _, den_al rfl, rfl, rfl, rfl, rfl, rfl, (by intro m z' hm hz; rcases m with _ | _ | _ | _ | _ | m <;> first | (exfalso; omega) | (cases hz; rfl)), ?_⟩
    refine ⟨_, _, _, den_ow, rfl, atI_nat' (i := 0) rfl, ?_⟩
    fail "kx"
    refine ev_xg rfl rfl ec (Xr.xf_of hE) T.f0 ?_
    fail "kx"
    exact ⟨rfl, rfl⟩
  | ring z =>
    have ec : cls = .ref Z.ring := ec
    have hE : ExcC K Z.ring := hE
    have k0 : PySem.W.kitOne K (.ref Z.ring) (.ref Z.plan) = some false := k0
    have k1 : PySem.W.kitOne K (.ref Z.ring) (.ref Z.ring) = some true := k1
    have k2 : PySem.W.kitOne K (.ref Z.ring) (.ref Z.service) = some false := k2
    have k3 : PySem.W.kitOne K (.ref Z.ring) (.ref Z.beats) = some false := k3
    have k4 : PySem.W.kitOne K (.ref Z.ring) (.ref Z.log) = some false := k4
    have k5 : PySem.W.kitOne K (.ref Z.ring) (.ref Z.text) = some false := k5
    have ve : PySem.W.kitOne K (.ref Z.ring) (.type "ValueError") = some true := ve
    fail "kx"
    refine ⟨Nat.le_of_ble_eq_true rfl, ?_⟩
    fail "kx"
    refine ⟨[false, true, false, false, false, false], den_al rfl, ?_⟩
    fail "kx"
    refine ⟨true, den_al rfl, rfl, ?_⟩
    fail "kx"
    refine ⟨_, 1, _, den_al rfl, rfl, rfl, rfl, rfl, rfl, (by intro m z' hm hz; rcases m with _ | _ | _ | _ | _ | m <;> first | (exfalso; omega) | (cases hz; rfl)), ?_⟩
    refine ⟨_, _, _, den_ow, rfl, atI_nat' (i := 1) rfl, ?_⟩
    fail "kx"
    refine ev_xg rfl rfl ec (Xr.xf_of hE) T.f1 ?_
    fail "kx"
    exact ⟨rfl, rfl⟩
  | service =>
    have ec : cls = .ref Z.service := ec
    have hE : ExcC K Z.service := hE
    have k0 : PySem.W.kitOne K (.ref Z.service) (.ref Z.plan) = some false := k0
    have k1 : PySem.W.kitOne K (.ref Z.service) (.ref Z.ring) = some false := k1
    have k2 : PySem.W.kitOne K (.ref Z.service) (.ref Z.service) = some true := k2
    have k3 : PySem.W.kitOne K (.ref Z.service) (.ref Z.beats) = some false := k3
    have k4 : PySem.W.kitOne K (.ref Z.service) (.ref Z.log) = some false := k4
    have k5 : PySem.W.kitOne K (.ref Z.service) (.ref Z.text) = some false := k5
    have ve : PySem.W.kitOne K (.ref Z.service) (.type "ValueError") = some true := ve
    fail "kx"
    refine ⟨Nat.le_of_ble_eq_true rfl, ?_⟩
    fail "kx"
    refine ⟨[false, false, true, false, false, false], den_al rfl, ?_⟩
    fail "kx"
    refine ⟨true, den_al rfl, rfl, ?_⟩
    fail "kx"
    refine ⟨_, 2, _, den_al rfl, rfl, rfl, rfl, rfl, rfl, (by intro m z' hm hz; rcases m with _ | _ | _ | _ | _ | m <;> first | (exfalso; omega) | (cases hz; rfl)), ?_⟩
    refine ⟨_, _, _, den_ow, rfl, atI_nat' (i := 2) rfl, ?_⟩
    fail "kx"
    refine .inr (.inl ⟨_, [Str.ofString "log", Str.ofString "text"], rfl, .inr den_pu, ?_⟩)
    fail "kx"
    exact ⟨rfl, rfl⟩
  | beats =>
    have ec : cls = .ref Z.beats := ec
    have hE : ExcC K Z.beats := hE
    have k0 : PySem.W.kitOne K (.ref Z.beats) (.ref Z.plan) = some false := k0
    have k1 : PySem.W.kitOne K (.ref Z.beats) (.ref Z.ring) = some false := k1
    have k2 : PySem.W.kitOne K (.ref Z.beats) (.ref Z.service) = some false := k2
    have k3 : PySem.W.kitOne K (.ref Z.beats) (.ref Z.beats) = some true := k3
    have k4 : PySem.W.kitOne K (.ref Z.beats) (.ref Z.log) = some false := k4
    have k5 : PySem.W.kitOne K (.ref Z.beats) (.ref Z.text) = some false := k5
    have ve : PySem.W.kitOne K (.ref Z.beats) (.type "ValueError") = some true := ve
    fail "kx"
    refine ⟨Nat.le_of_ble_eq_true rfl, ?_⟩
    fail "kx"
    refine ⟨[false, false, false, true, false, false], den_al rfl, ?_⟩
    fail "kx"
    refine ⟨true, den_al rfl, rfl, ?_⟩
    fail "kx"
    refine ⟨_, 3, _, den_al rfl, rfl, rfl, rfl, rfl, rfl, (by intro m z' hm hz; rcases m with _ | _ | _ | _ | _ | m <;> first | (exfalso; omega) | (cases hz; rfl)), ?_⟩
    refine ⟨_, _, _, den_ow, rfl, atI_nat' (i := 3) rfl, ?_⟩
    fail "kx"
    refine .inr (.inl ⟨_, [Str.ofString "log", Str.ofString "text"], rfl, .inr den_pu, ?_⟩)
    fail "kx"
    exact ⟨rfl, rfl⟩
  | log z =>
    have ec : cls = .ref Z.log := ec
    have hE : ExcC K Z.log := hE
    have k0 : PySem.W.kitOne K (.ref Z.log) (.ref Z.plan) = some false := k0
    have k1 : PySem.W.kitOne K (.ref Z.log) (.ref Z.ring) = some false := k1
    have k2 : PySem.W.kitOne K (.ref Z.log) (.ref Z.service) = some false := k2
    have k3 : PySem.W.kitOne K (.ref Z.log) (.ref Z.beats) = some false := k3
    have k4 : PySem.W.kitOne K (.ref Z.log) (.ref Z.log) = some true := k4
    have k5 : PySem.W.kitOne K (.ref Z.log) (.ref Z.text) = some false := k5
    have ve : PySem.W.kitOne K (.ref Z.log) (.type "ValueError") = some true := ve
    fail "kx"
    refine ⟨Nat.le_of_ble_eq_true rfl, ?_⟩
    fail "kx"
    refine ⟨[false, false, false, false, true, false], den_al rfl, ?_⟩
    fail "kx"
    refine ⟨true, den_al rfl, rfl, ?_⟩
    fail "kx"
    refine ⟨_, 4, _, den_al rfl, rfl, rfl, rfl, rfl, rfl, (by intro m z' hm hz; rcases m with _ | _ | _ | _ | _ | m <;> first | (exfalso; omega) | (cases hz; rfl)), ?_⟩
    refine ⟨_, _, _, den_ow, rfl, atI_nat' (i := 4) rfl, ?_⟩
    fail "kx"
    refine .inr (.inl ⟨_, [Str.ofString "log", Str.ofString "text"], rfl, .inr den_pu, ?_⟩)
    fail "kx"
    refine ev_xg rfl rfl ec (Xr.xf_of hE) T.f4 ?_
    fail "kx"
    exact ⟨rfl, rfl⟩
  | text z =>
    have ec : cls = .ref Z.text := ec
    have hE : ExcC K Z.text := hE
    have k0 : PySem.W.kitOne K (.ref Z.text) (.ref Z.plan) = some false := k0
    have k1 : PySem.W.kitOne K (.ref Z.text) (.ref Z.ring) = some false := k1
    have k2 : PySem.W.kitOne K (.ref Z.text) (.ref Z.service) = some false := k2
    have k3 : PySem.W.kitOne K (.ref Z.text) (.ref Z.beats) = some false := k3
    have k4 : PySem.W.kitOne K (.ref Z.text) (.ref Z.log) = some false := k4
    have k5 : PySem.W.kitOne K (.ref Z.text) (.ref Z.text) = some true := k5
    have ve : PySem.W.kitOne K (.ref Z.text) (.type "ValueError") = some true := ve
    fail "kx"
    refine ⟨Nat.le_of_ble_eq_true rfl, ?_⟩
    fail "kx"
    refine ⟨[false, false, false, false, false, true], den_al rfl, ?_⟩
    fail "kx"
    refine ⟨true, den_al rfl, rfl, ?_⟩
    fail "kx"
    refine ⟨_, 5, _, den_al rfl, rfl, rfl, rfl, rfl, rfl, (by intro m z' hm hz; rcases m with _ | _ | _ | _ | _ | m <;> first | (exfalso; omega) | (cases hz; rfl)), ?_⟩
    refine ⟨_, _, _, den_ow, rfl, atI_nat' (i := 5) rfl, ?_⟩
    fail "kx"
    refine .inr (.inl ⟨_, [Str.ofString "log", Str.ofString "text"], rfl, .inr den_pu, ?_⟩)
    fail "kx"
    refine ev_xg rfl rfl ec (Xr.xf_of hE) T.f5 ?_
    fail "kx"
    exact ⟨rfl, rfl⟩
end Kr

namespace Kr
open PySem PySem.Spec PyProof.Rows L2 Dl
/-! ### what the program finds is a ring -/
/-- a way from b along wants -/
inductive WayW (p : Pl) (b : Nat) : List Nat → Prop
  | one : WayW p b [b]
  | snoc {r : List Nat} {x : Nat} : WayW p b r → x ∈ wantsOf p (r.getLastD 0) → WayW p b (r ++ [x])
theorem lastD_snoc (r : List Nat) (x : Nat) : (r ++ [x]).getLastD 0 = x := by
  rw [List.getLastD_eq_getLast?, List.getLast?_append]
  rfl
theorem WayW.rank {p : Pl} {b : Nat} {rank : Nat → Nat} (hr : ∀ i x, x ∈ wantsOf p i → rank x < rank i) {r : List Nat} (h : WayW p b r) : rank (r.getLastD 0) ≤ rank b := by
  induction h with
  | one => exact Nat.le_refl _
  | snoc _ hx ih =>
    rw [lastD_snoc]
    have := hr _ _ hx
    omega
theorem ones_out2 {b : Nat} {r q : List Nat} : ∀ {ws : List Nat} {s : List Nat × List (List Nat)}, ringOnes b r ws s = .out q → q = r ∧ b ∈ ws
  | [], s, h => by cases h
  | one :: ws, s, h => by
    rw [ringOnes_cons] at h
    split at h
    · rename_i e
      cases h; exact ⟨rfl, by rw [e]; exact List.mem_cons_self ..⟩
    · split at h
      · obtain ⟨a, c⟩ := ones_out2 h
        exact ⟨a, List.mem_cons_of_mem _ c⟩
      · obtain ⟨a, c⟩ := ones_out2 h
        exact ⟨a, List.mem_cons_of_mem _ c⟩
theorem ones_way {p : Pl} {b : Nat} {r : List Nat} (hw : WayW p b r) : ∀ {ws : List Nat} {s s2 : List Nat × List (List Nat)}, (∀ x ∈ ws, x ∈ wantsOf p (r.getLastD 0)) → ringOnes b r ws s = .on s2 → (∀ q ∈ s.2, WayW p b q) → ∀ q ∈ s2.2, WayW p b q
  | [], s, _, _, h, hs => by cases h; exact hs
  | one :: ws, s, _, hx, h, hs => by
    rw [ringOnes_cons] at h
    have hx2 : ∀ x ∈ ws, x ∈ wantsOf p (r.getLastD 0) := fun x hm => hx x (List.mem_cons_of_mem _ hm)
    split at h
    · cases h
    · split at h
      · exact ones_way hw hx2 h hs
      · refine ones_way hw hx2 h fun q hq => ?_
        rcases List.mem_append.mp hq with hq | hq
        · exact hs q hq
        · rw [List.mem_singleton.mp hq]
          exact .snoc hw (hx one (List.mem_cons_self ..))
theorem rows_out2 {p : Pl} {b : Nat} {q : List Nat} : ∀ {rs : List (List Nat)} {s : List Nat × List (List Nat)}, ringRows p b rs s = .out q → q ∈ rs ∧ b ∈ wantsOf p (q.getLastD 0)
  | [], s, h => by cases h
  | r :: rs, s, h => by
    rw [ringRows_cons] at h
    cases ho : ringOnes b r (wantsOf p (r.getLastD 0)) s with
    | out z =>
      rw [ho] at h
      have h : Ro.out z = Ro.out q := h
      cases h
      obtain ⟨e, hb⟩ := ones_out2 ho
      rw [e]
      exact ⟨List.mem_cons_self .., hb⟩
    | on z =>
      rw [ho] at h
      obtain ⟨a, c⟩ := rows_out2 h
      exact ⟨List.mem_cons_of_mem _ a, c⟩
theorem rows_way {p : Pl} {b : Nat} : ∀ {rs : List (List Nat)} {s s2 : List Nat × List (List Nat)}, ringRows p b rs s = .on s2 → (∀ q ∈ rs, WayW p b q) → (∀ q ∈ s.2, WayW p b q) → ∀ q ∈ s2.2, WayW p b q
  | [], s, _, h, _, hs => by cases h; exact hs
  | r :: rs, s, _, h, hr, hs => by
    rw [ringRows_cons] at h
    cases ho : ringOnes b r (wantsOf p (r.getLastD 0)) s with
    | out z => rw [ho] at h; cases h
    | on z =>
      rw [ho] at h
      exact rows_way h (fun q hq => hr q (List.mem_cons_of_mem _ hq)) (ones_way (hr r (List.mem_cons_self ..)) (fun x hx => hx) ho hs)
theorem lv_ring {p : Pl} {b : Nat} {q : List Nat} : ∀ {k : Nat} {s : List (List Nat) × List Nat}, ringLv p b k s = some q → (∀ r ∈ s.1, WayW p b r) → WayW p b q ∧ b ∈ wantsOf p (q.getLastD 0)
  | 0, _, h, _ => by cases h
  | k + 1, s, h, hs => by
    unfold ringLv at h
    split at h
    · cases h
    · cases ho : ringRows p b s.1 (s.2, []) with
      | out z =>
        rw [ho] at h
        obtain ⟨h1, h2⟩ := rows_out2 ho
        cases h
        exact ⟨hs _ h1, h2⟩
      | on z =>
        rw [ho] at h
        exact lv_ring h (rows_way ho hs fun q hq => nomatch hq)
theorem ringF_ring {p : Pl} {b : Nat} {q : List Nat} (h : ringF p b = some q) : WayW p b q ∧ b ∈ wantsOf p (q.getLastD 0) :=
  lv_ring h fun r hr => by rw [List.mem_singleton.mp hr]; exact .one
theorem best_some {p : Pl} {q : List Nat} : ∀ {is : List Nat} {o : Option (List Nat)}, is.foldl (bestR p) o = some q → (∃ b ∈ is, ringF p b = some q) ∨ o = some q
  | [], o, h => .inr h
  | i :: is, o, h => by
    rw [List.foldl_cons] at h
    rcases best_some h with ⟨b, hb, e⟩ | e
    · exact .inl ⟨b, List.mem_cons_of_mem _ hb, e⟩
    · unfold bestR at e
      cases hq : ringF p i with
      | none => rw [hq] at e; exact .inr e
      | some x =>
        rw [hq] at e
        dsimp only at e
        split at e
        · cases e; exact .inl ⟨i, List.mem_cons_self .., hq⟩
        · exact .inr e
theorem firstR_ring {p : Pl} {q : List Nat} (h : firstR p = some q) : ∃ b, b < p.length ∧ WayW p b q ∧ b ∈ wantsOf p (q.getLastD 0) := by
  rcases best_some h with ⟨b, hb, e⟩ | e
  · obtain ⟨h1, h2⟩ := ringF_ring e
    exact ⟨b, List.mem_range.mp hb, h1, h2⟩
  · cases e
theorem firstR_good {p : Pl} (h : NoRing p) : firstR p = none := by
  cases e : firstR p with
  | none => rfl
  | some q =>
    obtain ⟨rank, hr⟩ := h
    obtain ⟨b, _, h1, h2⟩ := firstR_ring e
    have := h1.rank hr
    have := hr _ _ h2
    omega
theorem need_good {p : Pl} (h : Good p) : needD (planD p) = none := by
  unfold needD
  rw [serv_good h.sound]
  show (firstR (planU (planD p))).map _ = none
  rw [planU_plan, firstR_good h.free]
  rfl
end Kr

namespace Kr
open PySem PySem.Spec PyProof.Rows L2 Dl Lmx LamX
open Evl (Ex)
open TL (tl numL)
theorem szD_svc15 (s : Svc) (h : s.wants.length ≤ 100) : szD 2 (svcD s) := szD_tuple (by show 6 ≤ 100000; decide) fun x hx => by
  rcases List.mem_cons.mp hx with rfl | hx
  · exact szD_tuple (n := 0) (by rw [List.length_map, iz_len]; omega) fun y hy => by
      obtain ⟨n, _, rfl⟩ := List.mem_map.mp hy
      rfl
  · have : flatD x = true := by
      simp only [List.mem_cons, List.not_mem_nil, or_false] at hx
      rcases hx with rfl | rfl | rfl | rfl | rfl <;> rfl
    exact szD_flat this
theorem szD_plan15 {p : Pl} (h : Sound p) : szD 3 (planD p) := szD_tuple (by rw [List.length_map]; have := h.few; omega) fun x hx => by
  obtain ⟨s, hs, rfl⟩ := List.mem_map.mp hx
  obtain ⟨i, hi⟩ := List.mem_iff_getElem?.mp hs
  have := (h.svc i s hi).few
  have := h.few
  exact szD_svc15 s (by omega)
theorem okPlan_plan {p : Pl} (h : Sound p) : okPlan (planD p) := fun ss e _ s hs => by
  cases e
  obtain ⟨x, hx, rfl⟩ := List.mem_map.mp hs
  intro ws r e
  have e : PyData.tuple (.tuple ((iz x.wants).map PyData.int) :: [.int x.takes, .int x.ends, .int x.waits, .int x.stays, .int x.tries]) = .tuple (.tuple ws :: r) := e
  simp only [PyData.tuple.injEq, List.cons.injEq] at e
  obtain ⟨i, hi⟩ := List.mem_iff_getElem?.mp hx
  have h1 := (h.svc i x hi).few
  have h2 := h.few
  rw [← e.1]
  refine ⟨by rw [List.length_map, iz_len]; omega, fun y hy => ?_⟩
  obtain ⟨n, _, rfl⟩ := List.mem_map.mp hy
  exact okD_int.up (Nat.zero_le _)
theorem szD_pair {a : Str} {d : PyData} (h : szD 1 d) : szD 2 (.tuple [.str a, d]) := szD_tuple (by show 2 ≤ 100000; decide) fun x hx => by
  simp only [List.mem_cons, List.not_mem_nil, or_false] at hx
  rcases hx with rfl | rfl
  · exact szD_flat rfl
  · exact h
/-- what is told of a refusal is short -/
theorem szD_need {d : PyData} {x : Xc} (h : needD d = some x) : szD 2 (excD x) := by
  unfold needD at h
  cases hs : servD d with
  | some y =>
    rw [hs] at h
    cases h
    have : ∃ i : Int, x = .plan (.int i) := by
      cases d with
      | tuple ss =>
        rw [servD_tup] at hs
        split at hs
        · obtain ⟨i, _, e⟩ := Option.map_eq_some_iff.mp hs
          exact ⟨_, e.symm⟩
        · cases hs; exact ⟨_, rfl⟩
      | _ => cases hs; exact ⟨_, rfl⟩
    obtain ⟨i, rfl⟩ := this
    exact szD_pair (szD_flat rfl)
  | none =>
    rw [hs] at h
    obtain ⟨r, hr, rfl⟩ := Option.map_eq_some_iff.mp h
    have h1 := firstR_len hr
    have h2 := (serv_none hs).2.few
    exact szD_pair (szD_tuple (by rw [List.length_map, iz_len]; omega) fun y hy => by
      obtain ⟨n, _, rfl⟩ := List.mem_map.mp hy
      rfl)
theorem szD_up {n m : Nat} : ∀ {d : PyData}, szD n d → n ≤ m → szD m d := by
  induction n generalizing m with
  | zero => exact fun h _ => szD_flat h
  | succ n ih =>
    intro d h l
    cases m with
    | zero => omega
    | succ m =>
      rcases h with h | ⟨ds, h1, h2, h3⟩
      · exact .inl h
      · exact .inr ⟨ds, h1, h2, fun x hx => ih (h3 x hx) (by omega)⟩
theorem szD_read {t : Str} {x : Xc} (h : readX t = some x) : szD 2 (excD x) := by
  unfold readX at h
  split at h
  · cases h
    exact szD_pair (szD_flat rfl)
  · exact szD_need h
theorem okD_rowO (o : Option (List Nat × List Nat)) : okD 2 (rowOD o) := by
  cases o with
  | none => exact okD_none.up (by decide)
  | some r =>
    refine okD_tuple fun x hx => ?_
    rcases List.mem_cons.mp hx with rfl | hx
    · refine okD_tuple fun y hy => ?_
      obtain ⟨n, _, rfl⟩ := List.mem_map.mp hy
      exact okD_int
    · obtain ⟨n, _, rfl⟩ := List.mem_map.mp hx
      exact okD_int.up (by decide)
theorem shaped_rows (os : List (Option (List Nat × List Nat))) : SeqAt.shaped (.list (os.map rowOD)) = true := (okD_list (n := 2) fun x hx => by
  obtain ⟨o, _, rfl⟩ := List.mem_map.mp hx
  exact okD_rowO o).shaped (by decide)
theorem eqv_rowO (o : Option (List Nat × List Nat)) : PyData.eqv (rowOD o) .none = o.isNone := by
  cases o with
  | none => rfl
  | some r => rfl
theorem any_rows (os : List (Option (List Nat × List Nat))) : ((os.map rowOD).any fun z => PyData.eqv z .none) = (firstNone os).isSome := by
  rw [List.any_map]
  cases h : firstNone os with
  | none =>
    unfold firstNone at h
    rw [List.find?_eq_none] at h
    refine List.any_eq_false.mpr fun o ho => ?_
    obtain ⟨i, hi⟩ := List.mem_iff_getElem?.mp ho
    have h2 := h i (List.mem_range.mpr (List.getElem?_eq_some_iff.mp hi).1)
    rw [List.getD_eq_getElem?_getD, hi] at h2
    show ¬ PyData.eqv (rowOD o) .none = true
    rw [eqv_rowO]
    exact h2
  | some i =>
    unfold firstNone at h
    rw [List.find?_range_eq_some] at h
    obtain ⟨h1, h2, _⟩ := h
    have hi := List.mem_range.mp h2
    refine List.any_eq_true.mpr ⟨os[i], List.getElem_mem _, ?_⟩
    rw [List.getD_eq_getElem?_getD, List.getElem?_eq_getElem hi] at h1
    show PyData.eqv (rowOD os[i]) .none = true
    rw [eqv_rowO]
    exact h1
theorem firstNone_ix {os : List (Option (List Nat × List Nat))} {i : Nat} (h : firstNone os = some i) : (os.map rowOD)[i]? = some .none ∧ ∀ (m : Nat) (z' : PyData), m < i → (os.map rowOD)[m]? = some z' → PyData.eqv z' .none = false := by
  unfold firstNone at h
  rw [List.find?_range_eq_some] at h
  obtain ⟨h1, h2, h3⟩ := h
  have hi := List.mem_range.mp h2
  rw [List.getD_eq_getElem?_getD, List.getElem?_eq_getElem hi] at h1
  refine ⟨?_, fun m z' hm hz => ?_⟩
  · rw [List.getElem?_map, List.getElem?_eq_getElem hi]
    have : os[i] = none := Option.isNone_iff_eq_none.mp h1
    rw [this]
    rfl
  · rw [List.getElem?_map, List.getElem?_eq_getElem (by omega)] at hz
    cases hz
    have h4 := h3 m hm
    rw [List.getD_eq_getElem?_getD, List.getElem?_eq_getElem (by omega)] at h4
    rw [eqv_rowO]
    simpa using h4
theorem firstNone_lt {α : Type} {os : List (Option α)} {i : Nat} (h : firstNone os = some i) : i < os.length := by
  unfold firstNone at h
  rw [List.find?_range_eq_some] at h
  exact List.mem_range.mp h.2.1
def capT : Nat → Nat
  | 0 => 636
  | i + 1 => 2 * capT i + 8
theorem capT_le : ∀ {i : Nat}, i ≤ 3 → capT i ≤ 6000
  | 0, _ => by decide
  | 1, _ => by decide
  | 2, _ => by decide
  | 3, _ => by decide
  | i + 4, h => absurd h (by omega)
/-- what is due -/
def dueD (t : Str) : PyData := match readX t with
  | some x => excD x
  | none => .none
abbrev lawQ : Str := (envOfC "law" (defScope s_law) 0 0 .none).qual ++ "<lambda>"
abbrev sA : Str := Str.ofString "- 1 1 1 1 1"
abbrev sB : Str := Str.ofString "- 1 1 1 1 1\n"
abbrev sC : Str := Str.ofString "0 1 1 1 1 1"
abbrev sD : Str := Str.ofString "- 1 1 1 1 0"
abbrev sE : Str := Str.ofString "1 1 1 1 1 1\n0 1 1 1 1 1"
def someS : List Str := [Str.ofString "", Str.ofString "-", sA, sB, sC, sD, sE, Str.ofString " ", Txt.join (Str.ofString "\n") (List.replicate 13 sA)]
theorem some_ok : ∀ z ∈ someS, z.length ≤ 636 ∧ ∀ c ∈ tl z, c < 128 := by decide +kernel
section
variable {P : Program} {w : World} {K : PySem.W.Frag} {mg : Str → Option Value} {base : Heap} {Z : XA}
theorem ok_law {f c Pt : Addr} {fd : FuncData} (F : FunC K "law" "law" s_law f c fd) (B : Bn mg) (TB : TabB base mg c Pt) (bVE : mg "ValueError" = none) (TZ : ZOk K mg Z) (D__law_word : Df K mg "_law_word" s__law_word ["_law_work"]) (c__law_dice : Cal P w K mg base 1 "_law_dice" (spP K 2 pDice tDice)) (c__law_off : Cal P w K mg base 1 "_law_off" (spDi K 1 pOff tOff)) (c__law_plan : Cal P w K mg base 3 "_law_plan" (spDi K 1 pPlan tPlan))
    (c__law_alike : Cal P w K mg base 4 "_law_alike" (spP K 2 (pAlike 4) tTrue2)) (c__law_changed : Cal P w K mg base 2 "_law_changed" (spDi K 1 pChg tChg)) (c__law_row : Cal P w K mg base 2 "_law_row" (spP K 1 pRowX tRowX)) (cX_written : CalX P w K mg base 5 "written" (spX K 1 pPlanX tWritX (rNeed K Z needD))) (cX_read : CalX P w K mg base 5 "read" (spX K 1 pReadX tReadX (rReadX K Z))) : FnOk P w K mg base CX0 8 f fd ["_law_script"] (spLawT K Pt) := by
  have nd := sc_law.nd
  refine fnLawT (q := lawQ) F sc_law (by decide) fun A outer st H E hr => ⟨_, (pss_cons (ps_set (i := 1) nd rfl (Or.inl rfl) (Dl.pe_c c__law_dice hr (pa_cons (pv 0) (pa_cons pe_int pa_nil))))
      (pss_cons (ps_set (i := 2) nd rfl (Or.inl rfl) (pe_lst (pa_cons pe_str (pa_cons pe_str (pa_cons pe_str (pa_cons pe_str (pa_cons pe_str (pa_cons pe_str (pa_cons pe_str (pa_cons pe_str pa_nil))))))))))
      (pss_cons (ps_expr (Kk.pe_bm (K := K) PySem.F.plainAttrs_list PySem.F.slot_list_append PySem.F.type_list_append mt_append (pv 2) (pa_cons (Kk.pe_join (K := K) pe_str (pe_op op_rep (pe_lst (pa_cons pe_str pa_nil)) pe_int)) pa_nil)))
      (pss_cons (ps_for PassesOwn.never rfl (pi_range1 (by rfl) B.range (pa_cons pe_int pa_nil)) (pg_name (i := 3) nd rfl (Or.inl rfl)) (pss_cons (ps_set (i := 4) nd rfl (Or.inr rfl) (pe_ix (Kk.ix_list (K := K)) (pe_lst (pa_cons (Dl.pe_cX cX_written hr Lmx.passN (pa_cons (Dl.pe_c c__law_plan hr (pa_cons (pv 1) (pa_cons pe_int pa_nil))) pa_nil)) (pa_cons (pe_ix (Kk.ix_list (K := K)) (pv 2) (Dl.pe_c c__law_off hr (pa_cons (pv 1) (pa_cons pe_int pa_nil))) (fun _ _ => rfl)) pa_nil))) (pe_callTy call_int1 (by rfl) B.int (by decide +kernel) (pa_cons (pe_cmpR op_eq (Dl.pe_c c__law_off hr (pa_cons (pv 1) (pa_cons pe_int pa_nil))) pe_int (nomark _)) pa_nil)) (fun _ _ => rfl)))
      (pss_cons (ps_for PassesOwn.never rfl (pi_range1 (by rfl) B.range (pa_cons (Dl.pe_c c__law_off hr (pa_cons (pv 1) (pa_cons pe_int pa_nil))) pa_nil)) (pg_name (i := 5) nd rfl (Or.inl rfl)) (pss_one (ps_set (i := 4) nd rfl (Or.inr rfl) (Dl.pe_c c__law_changed hr (pa_cons (pv 1) (pa_cons (pv 4) pa_nil))))))
      (pss_cons (ps_set (i := 6) nd rfl (Or.inr rfl) (pe_lc (own := [("_law_row_here", 8)]) rfl nd (Kk.pi_list (K := K) (pe_split (pv 4) pe_str)) (blkOk_by (by kernel_rfl)) (fun _ _ _ _ _ => (pg_name (i := 8) nd rfl (by first | exact Or.inl rfl | exact Or.inr rfl))) (fun _ _ _ _ _ => pts_nil) (fun _ _ _ _ _ => (Dl.pe_c c__law_row hr (pa_cons (pv 8) pa_nil)))))
      (pss_cons (ps_set (i := 7) nd rfl (Or.inl rfl) (pe_ifExp (pt_cmpR (Kk.op_inD (K := K) (Kk.hu65 hr)) pe_non (pv 6) (by rfl)) (pe_tup (pa_cons pe_str (pa_cons (Kk.pe_bm (K := K) PySem.F.plainAttrs_list PySem.F.slot_list_index PySem.F.type_list_index (Kk.mt_indexD (K := K) (Kk.hu65 hr)) (pv 6) (pa_cons pe_non pa_nil)) pa_nil))) (Lmx.pe_wordL0 D__law_word (fun _ _ => word_gives B bVE TZ) sc__law_word TB rfl hr (fun A outer s H E f c' hr2 => (Dl.pe_cX cX_written hr2 (Lmx.passL (E := E)) (pa_cons (Kk.pe_tupleOf (K := K) (by rfl) B.tuple (pv 6)) pa_nil))))))
      (pss_one (ps_if (pt_cmp (pc_notN (pv 7))) (pss_one (ps_if (pt_not (pt_val (Dl.pe_c c__law_alike hr (pa_cons (Lmx.pe_wordL1 D__law_word (fun _ _ => word_gives B bVE TZ) sc__law_word TB rfl hr (fun A outer s H E f c' hr2 => (Dl.pe_cX cX_read hr2 (Lmx.passL (E := E)) (pa_cons (pv 4) pa_nil))) rfl (fun _ _ _ _ _ => ⟨_, _, rfl, fun _ => rfl, rfl⟩)) (pa_cons (pv 7) pa_nil))))) (pss_one (ps_ret pe_bl)) pss_nil)) (pss_one (ps_if (pt_not (pt_val (Dl.pe_c c__law_alike hr (pa_cons (Dl.pe_cX cX_read hr Lmx.passN (pa_cons (pv 4) pa_nil)) (pa_cons (Kk.pe_tupleOf (K := K) (by rfl) B.tuple (pv 6)) pa_nil))))) (pss_one (ps_ret pe_bl)) pss_nil)))))))))
      (pss_one (ps_ret pe_bl)))))), fun ns hl => ?_⟩
  generalize hsc : PyData.list (ns.map PyData.int) = sc
  show ExS K _ _ [.ow (RTab K Pt lawQ sc), .non, .non, .non, .non, .non, .non, .non, .non]
  have hsl : sizeLine = 16777216 := rfl
  fail "kr"
  refine ev_call ?_
  refine eds_cons (ev_scr rfl ?_)
  fail "kr"
  refine ⟨rfl, ⟨ns, 0, by rw [hsc], by omega, by decide⟩, fun r hr => ?_⟩
  obtain ⟨xs, rfl, ok⟩ := hr
  refine ⟨Nat.le_of_ble_eq_true rfl, _, rfl, ?_⟩
  show ExS K _ _ [.ow (RTab K Pt lawQ sc), .ow (RL K (xs.map PyData.int)), .non, .non, .non, .non, .non, .non, .non]
  refine xs_dice (j := 1) rfl ok fun a => ?_
  fail "kr"
  refine ⟨by decide, by decide, Nat.le_of_ble_eq_true rfl, List.replicate 13 (Str.ofString "- 1 1 1 1 1"), .inl den_ow, Nat.le_of_ble_eq_true (by decide +kernel), ?_⟩
  fail "kr"
  refine ⟨Nat.le_of_ble_eq_true rfl, ?_⟩
  show ExS K (tSeq _ _) _ [.ow (RTab K Pt lawQ sc), .ow (RDi a), .ow (RL K (someS.map PyData.str)), .non, .non, .non, .non, .non, .non]
  fail "kr"
  refine xs_forR1 ?_
  fail "kr"
  refine ⟨by decide, by decide, fun _ δ' => ∃ s3 s4 s5 s6 s7, δ' = [.ow (RTab K Pt lawQ sc), .ow (RDi a), .ow (RL K (someS.map PyData.str)), s3, s4, s5, s6, s7, .non], ⟨_, _, _, _, _, rfl⟩, fun i δ' hi => ?_, fun δ' => ?_⟩
  case refine_2 =>
    rintro ⟨s3, s4, s5, s6, s7, rfl⟩
    fail "kr"
    rfl
  rintro ⟨s3, s4, s5, s6, s7, rfl⟩
  refine turn1_name (Nat.le_of_ble_eq_true rfl) ?_
  refine xs_seq ?_
  dsimp only
  refine xs_mid (fun δ' => ∃ t : Str, t.length ≤ 636 ∧ asc t ∧ δ' = [.ow (RTab K Pt lawQ sc), .ow (RDi a), .ow (RL K (someS.map PyData.str)), .pu (.int i), .pu (.str t), s5, s6, s7, .non]) ?_ ?_
  · fail "kr"
    refine ev_callX ?_
    fail "kr"
    refine ev_callD rfl ?_
    fail "kr"
    refine ⟨rfl, rfl, ⟨12, rfl, by decide, by decide⟩, fun r hr => ?_⟩
    obtain ⟨p, rfl, hg, hpl⟩ := hr 12 rfl
    fail "kr"
    refine ⟨rfl, ⟨planD p, rfl, okPlan_plan hg.sound, fun _ z => nomatch z⟩, fun r hT => ?_, fun p' ⟨d', x, e, hx, _⟩ => ?_⟩
    case refine_2 =>
      cases e
      rw [need_good hg] at hx
      cases hx
    obtain ⟨_, rfl⟩ := hT _ rfl
    rw [planU_plan]
    fail "kr"
    intro x hx
    have hx : x < 9 := by omega
    have h9 : someS.length = 9 := rfl
    obtain ⟨z, hz⟩ : ∃ z, someS[x]? = some z := ⟨someS[x], List.getElem?_eq_getElem (by omega)⟩
    have hzo := some_ok z (List.mem_of_getElem? hz)
    refine ⟨_, _, .str z, den_al rfl, rfl, atI_nat' (by rw [List.getElem?_map, hz]; rfl), ?_⟩
    fail "kr"
    intro y hy
    have hto := text_tight hg.sound
    have hta := text_asc hg.sound
    fail "kr"
    cases decide ((y : Int) = 0) with
    | true =>
      refine ⟨_, 1, .str z, den_ow, rfl, atI_nat' (i := 1) rfl, ?_⟩
      fail "kr"
      exact ⟨z, hzo.1, hzo.2, rfl⟩
    | false =>
      refine ⟨_, 0, .str (textOf p), den_ow, rfl, atI_nat' (i := 0) rfl, ?_⟩
      fail "kr"
      exact ⟨_, hto, hta, rfl⟩
  rintro _ ⟨t, ht, hta, rfl⟩
  refine xs_seq (xs_mid (fun δ' => ∃ (t : Str) (s5 : Slot), t.length ≤ 6000 ∧ asc t ∧ δ' = [.ow (RTab K Pt lawQ sc), .ow (RDi a), .ow (RL K (someS.map PyData.str)), .pu (.int i), .pu (.str t), s5, s6, s7, .non]) ?_ ?_)
  · refine xs_forR1 ?_
    fail "kr"
    intro m hm
    fail "kr"
    refine ⟨by omega, by omega, fun k δ' => ∃ (t : Str) (s5 : Slot), t.length ≤ capT k ∧ asc t ∧ δ' = [.ow (RTab K Pt lawQ sc), .ow (RDi a), .ow (RL K (someS.map PyData.str)), .pu (.int i), .pu (.str t), s5, s6, s7, .non], ⟨t, s5, ht, hta, rfl⟩, fun k δ' hk => ?_, fun δ' => ?_⟩
    · rintro ⟨t, s5, ht, hta, rfl⟩
      have hcap := capT_le (i := k) (by omega)
      refine turn1_name (Nat.le_of_ble_eq_true rfl) ?_
      fail "kr"
      refine ev_callD rfl ?_
      fail "kr"
      refine ⟨rfl, rfl, ⟨t, rfl, by omega, hta⟩, fun r hr => ?_⟩
      obtain ⟨u, rfl, hu, hua⟩ := hr t rfl
      fail "kr"
      exact ⟨u, _, by show u.length ≤ 2 * capT k + 8; omega, hua, rfl⟩
    · rintro ⟨t, s5, ht, hta, rfl⟩
      exact ⟨t, s5, by have := capT_le (i := (m : Int).toNat) (by omega); omega, hta, rfl⟩
  clear ht hta t
  rintro _ ⟨t, s5, ht, hta, rfl⟩
  have hfew := split_few (x := t) sgn_line
  have hlo : (linesO t).length = (Txt.split t (Str.ofString "\n")).length := List.length_map _
  refine xs_seq (xs_mid (fun δ' => δ' = [.ow (RTab K Pt lawQ sc), .ow (RDi a), .ow (RL K (someS.map PyData.str)), .pu (.int i), .pu (.str t), s5, .ow (RL K ((linesO t).map rowOD)), s7, .non]) ?_ ?_)
  · fail "kr"
    refine ev_fL (g := PyData.str) (fun _ => true) (fun z => rowOD (rowO z)) ?_
    fail "kr"
    refine ⟨by decide +kernel, by rw [hsl]; omega, ?_⟩
    fail "kr"
    refine ⟨wip1 rfl junk_non, Nat.le_of_ble_eq_true rfl, by omega, fun q hq => ?_, ?_⟩
    · unfold Turn1C
      simp only [List.set_cons_zero, List.set_cons_succ]
      fail "kr"
      refine ⟨rfl, rfl, fun _ => ?_⟩
      refine ed_of (ev_call ?_)
      fail "kr"
      refine ⟨rfl, ⟨q, rfl, ?_, hta.piece sgn_line hq⟩, fun r hr => ?_⟩
      · have := (split_piece sgn_line hq).1
        omega
      rw [hr q rfl]
      exact ⟨_, frz_pu, rfl, rfl⟩
    · rw [filter_yes', show ((Txt.split t (Str.ofString "\n")).map fun z => rowOD (rowO z)) = (linesO t).map rowOD from by unfold linesO; rw [List.map_map]; rfl]
      fail "kr"
      rfl
  rintro _ rfl
  refine xs_seq (xs_mid (fun δ' => δ' = [.ow (RTab K Pt lawQ sc), .ow (RDi a), .ow (RL K (someS.map PyData.str)), .pu (.int i), .pu (.str t), s5, .ow (RL K ((linesO t).map rowOD)), .pu (dueD t), .non]) ?_ ?_)
  · fail "kr"
    refine ev_inD ?_
    fail "kr"
    refine ⟨_, _, rfl, den_al rfl, rfl, shaped_rows _, ?_⟩
    rw [any_rows]
    cases hfn : firstNone (linesO t) with
    | some j =>
      obtain ⟨h1, h2⟩ := firstNone_ix hfn
      have ed : dueD t = .tuple [.str (Str.ofString "text"), .int (j : Int)] := by unfold dueD readX; rw [hfn]; rfl
      fail "kr"
      refine ev_indexD ?_
      fail "kr"
      refine ⟨_, j, .none, den_al rfl, rfl, shaped_rows _, rfl, h1, rfl, h2, ?_⟩
      fail "kr"
      rw [ed]
      rfl
    | none =>
      have ed : dueD t = match needD (rowsOD t) with | some x => excD x | none => .none := by unfold dueD readX; rw [hfn]
      fail "kr"
      refine ev_word ?_
      refine ev_lamb (i := 0) rfl (fun _ _ => rfl) (fun _ _ => rfl) (fun _ _ => rfl) ?_
      refine ⟨(), rfl, ?_⟩
      fail "kr"
      refine ⟨by rw [List.length_map]; omega, ?_⟩
      fail "kr"
      refine ⟨rfl, ⟨rowsOD t, rfl, okPlan_rows (by omega), fun _ z => nomatch z⟩, fun r hT => ?_, fun p' ⟨d', x, e, hx, hp⟩ => ?_⟩
      · obtain ⟨hnd, rfl⟩ := hT _ rfl
        have hnd : needD (rowsOD t) = none := hnd
        fail "kr"
        rw [ed, hnd]
        rfl
      · cases e
        have hx : needD (rowsOD t) = some x := hx
        refine ⟨x, hp, ?_⟩
        fail "kr"
        rw [ed, hx]
        rfl
  rintro _ rfl
  cases hrx : readX t with
  | some x =>
    have ed : dueD t = excD x := by unfold dueD; rw [hrx]
    have hsz := szD_read hrx
    have hnn : isNone (excD x) = false := by cases x <;> rfl
    rw [ed]
    fail "kr"
    refine ifT (by rw [hnn]; rfl) ?_
    fail "kr"
    refine ev_call ?_
    fail "kr"
    refine ev_word ?_
    refine ev_lamb (i := 0) rfl (fun _ _ => rfl) (fun _ _ => rfl) (fun _ _ => rfl) ?_
    refine ⟨(), rfl, ?_⟩
    fail "kr"
    refine ⟨rfl, ⟨t, rfl, by omega, hta⟩, fun r hT => ?_, fun p' ⟨t', x', e, hx, hp⟩ => ?_⟩
    · have := (hT t rfl).1
      rw [hrx] at this
      cases this
    · cases e
      rw [hrx] at hx
      cases hx
      refine ⟨x, hp, ?_⟩
      fail "kr"
      refine ⟨rfl, ⟨excD x, rfl, szD_up hsz (by decide)⟩, fun r hr => ?_⟩
      cases (show r = .d (.bool true) from hr)
      fail "kr"
      exact ⟨_, _, _, _, _, rfl⟩
  | none =>
    have ed : dueD t = .none := by unfold dueD; rw [hrx]
    have hnd : needD (rowsOD t) = none := by
      unfold readX at hrx
      split at hrx
      · cases hrx
      · exact hrx
    obtain ⟨ep, hS, _⟩ := need_none hnd
    have hsz : szD 3 (rowsOD t) := by rw [ep]; exact szD_plan15 hS
    rw [ed]
    fail "kr"
    refine ev_call ?_
    fail "kr"
    refine ev_callX ?_
    fail "kr"
    refine ⟨rfl, ⟨t, rfl, by omega, hta⟩, fun r hT => ?_, fun p' ⟨t', x', e, hx, hp⟩ => ?_⟩
    case refine_2 =>
      cases e
      rw [hrx] at hx
      cases hx
    obtain ⟨_, rfl⟩ := hT t rfl
    fail "kr"
    refine ⟨by rw [List.length_map]; omega, ?_⟩
    fail "kr"
    refine ⟨rfl, ⟨rowsOD t, rfl, hsz⟩, fun r hr => ?_⟩
    cases (show r = .d (.bool true) from hr)
    fail "kr"
    exact ⟨_, _, _, _, _, rfl⟩
end
end Kr

namespace Kr
open PySem PySem.Spec PyProof.Rows L2 Dl
open Evl (Ex)
theorem all_mk {l : PySem.W.OpenLaw} {w : World} {K : PySem.W.Frag} {h : Heap} {mg : Str → Option Value} {fa f0 f1 f2 f3 f4 f5 f6 f7 f8 f9 f10 f11 f12 f13 f14 f15 f16 f17 f18 f19 f20 f21 ZKeepError ZBadPlan ZBadRing ZBadService ZBadBeats ZBadLog ZBadText f_xBadPlan NBadPlan f_xBadRing NBadRing f_xBadText NBadText bBOUNDS bBOUNDS_0 bBOUNDS_1 bBOUNDS_2 bBOUNDS_3 bBOUNDS_4 cL PL : Addr} (X : K.In h) (G : h.Ns mainGlobals mg) (hfa : mg "law" = some (.ref fa)) (own : LamX.OwnTab K fa h)
    {od0 an0 od1 an1 od2 an2 od3 an3 od4 an4 od5 an5 od6 an6 od7 an7 od8 an8 od9 an9 od10 an10 od11 an11 od12 an12 od13 an13 od14 an14 od15 an15 od16 an16 od17 an17 od18 an18 od19 an19 od20 an20 od21 an21 od_xBadPlan an_xBadPlan dd_xBadPlan od_xBadRing an_xBadRing dd_xBadRing od_xBadText an_xBadText dd_xBadText oBOUNDS oBOUNDS_0 oBOUNDS_1 oBOUNDS_2 oBOUNDS_3 oBOUNDS_4 odL : Option Addr} {sl0 sl1 sl2 sl3 sl4 sl5 sl6 sl7 sl8 sl9 sl10 sl11 sl12 sl13 sl14 sl15 sl16 sl17 sl18 sl19 sl20 sl21 sl_xBadPlan sl_xBadRing sl_xBadText sBOUNDS sBOUNDS_0 sBOUNDS_1 sBOUNDS_2 sBOUNDS_3 sBOUNDS_4 slL : Array (Option Value)} {oc0 kV0 dc0 pm0 cd0 ct0 oc1 kV1 dc1 pm1 cd1 ct1 oc2 kV2 dc2 pm2 cd2 ct2 oc3 kV3 dc3 pm3 cd3 ct3 oc4 kV4 dc4 pm4 cd4 ct4 oc5 kV5 dc5 pm5 cd5 ct5 oc6 kV6 dc6 pm6 cd6 ct6 oc7 kV7 dc7 pm7 cd7 ct7 oc8 kV8 dc8 pm8 cd8 ct8 oc9 kV9 dc9 pm9 cd9 ct9 oc10 kV10 dc10 pm10 cd10 ct10 oc11 kV11 dc11 pm11 cd11 ct11 oc12 kV12 dc12 pm12 cd12 ct12 oc13 kV13 dc13 pm13 cd13 ct13 oc14 kV14 dc14 pm14 cd14 ct14 oc15 kV15 dc15 pm15 cd15 ct15 oc16 kV16 dc16 pm16 cd16 ct16 oc17 kV17 dc17 pm17 cd17 ct17 oc18 kV18 dc18 pm18 cd18 ct18 oc19 kV19 dc19 pm19 cd19 ct19 oc20 kV20 dc20 pm20 cd20 ct20 oc21 kV21 dc21 pm21 cd21 ct21 oc_xBadPlan kV_xBadPlan dc_xBadPlan pm_xBadPlan cd_xBadPlan ct_xBadPlan oc_xBadRing kV_xBadRing dc_xBadRing pm_xBadRing cd_xBadRing ct_xBadRing oc_xBadText kV_xBadText dc_xBadText pm_xBadText cd_xBadText ct_xBadText : Value} {tMOST_SERVICES tBOUNDS_0_0 tBOUNDS_0_1 tBOUNDS_1_0 tBOUNDS_1_1 tBOUNDS_2_0 tBOUNDS_2_1 tBOUNDS_3_0 tBOUNDS_3_1 tBOUNDS_4_0 tBOUNDS_4_1 tFIGURES tNONE tfL tgL ttL : Tok} {nBOUNDS nBOUNDS_0 nBOUNDS_1 nBOUNDS_2 nBOUNDS_3 nBOUNDS_4 : Nat} {iBOUNDS_0 iBOUNDS_1 iBOUNDS_2 iBOUNDS_3 iBOUNDS_4 iBOUNDS vsL : Array Value} {ab_xBadPlan ab_xBadRing ab_xBadText inL : Bool} {flL txL : Int} {nm_xBadPlan qn_xBadPlan nm_xBadRing qn_xBadRing nm_xBadText qn_xBadText fiL : Str} {bs_xBadPlan sub_xBadPlan bs_xBadRing sub_xBadRing bs_xBadText sub_xBadText : List Value} {col_xBadPlan col_xBadRing col_xBadText : Option Bool} {sn_xBadPlan sn_xBadRing sn_xBadText : List Str} {k0_xBadPlan k1_xBadPlan k2_xBadPlan k3_xBadPlan k5_xBadPlan k0_xBadRing k1_xBadRing k2_xBadRing k3_xBadRing k5_xBadRing k0_xBadText k1_xBadText k2_xBadText k3_xBadText k5_xBadText : Option Value}
    (a0 : PySem.W.nsIn K mainGlobals "is_between" = some (some (.ref f0)))
    (l0 : K.lookup f0 = some ⟨oc0, od0, .func (PySem.W.fnOf "is_between" "is_between" (defArgs s_is_between) (defBody s_is_between) (defScope s_is_between) .none kV0 dc0 pm0 an0 cd0 ct0), sl0⟩)
    (c0 : PySem.W.codeIn K cd0 "is_between" = true)
    (k0 : PySem.W.keepIn K (.ref f0) = true)
    (a1 : PySem.W.nsIn K mainGlobals "is_service" = some (some (.ref f1)))
    (l1 : K.lookup f1 = some ⟨oc1, od1, .func (PySem.W.fnOf "is_service" "is_service" (defArgs s_is_service) (defBody s_is_service) (defScope s_is_service) .none kV1 dc1 pm1 an1 cd1 ct1), sl1⟩)
    (c1 : PySem.W.codeIn K cd1 "is_service" = true)
    (k1 : PySem.W.keepIn K (.ref f1) = true)
    (a2 : PySem.W.nsIn K mainGlobals "ring_from" = some (some (.ref f2)))
    (l2 : K.lookup f2 = some ⟨oc2, od2, .func (PySem.W.fnOf "ring_from" "ring_from" (defArgs s_ring_from) (defBody s_ring_from) (defScope s_ring_from) .none kV2 dc2 pm2 an2 cd2 ct2), sl2⟩)
    (c2 : PySem.W.codeIn K cd2 "ring_from" = true)
    (k2 : PySem.W.keepIn K (.ref f2) = true)
    (a3 : PySem.W.nsIn K mainGlobals "first_ring" = some (some (.ref f3)))
    (l3 : K.lookup f3 = some ⟨oc3, od3, .func (PySem.W.fnOf "first_ring" "first_ring" (defArgs s_first_ring) (defBody s_first_ring) (defScope s_first_ring) .none kV3 dc3 pm3 an3 cd3 ct3), sl3⟩)
    (c3 : PySem.W.codeIn K cd3 "first_ring" = true)
    (k3 : PySem.W.keepIn K (.ref f3) = true)
    (a4 : PySem.W.nsIn K mainGlobals "need_services" = some (some (.ref f4)))
    (l4 : K.lookup f4 = some ⟨oc4, od4, .func (PySem.W.fnOf "need_services" "need_services" (defArgs s_need_services) (defBody s_need_services) (defScope s_need_services) .none kV4 dc4 pm4 an4 cd4 ct4), sl4⟩)
    (c4 : PySem.W.codeIn K cd4 "need_services" = true)
    (k4 : PySem.W.keepIn K (.ref f4) = true)
    (a5 : PySem.W.nsIn K mainGlobals "need_plan" = some (some (.ref f5)))
    (l5 : K.lookup f5 = some ⟨oc5, od5, .func (PySem.W.fnOf "need_plan" "need_plan" (defArgs s_need_plan) (defBody s_need_plan) (defScope s_need_plan) .none kV5 dc5 pm5 an5 cd5 ct5), sl5⟩)
    (c5 : PySem.W.codeIn K cd5 "need_plan" = true)
    (k5 : PySem.W.keepIn K (.ref f5) = true)
    (a6 : PySem.W.nsIn K mainGlobals "written" = some (some (.ref f6)))
    (l6 : K.lookup f6 = some ⟨oc6, od6, .func (PySem.W.fnOf "written" "written" (defArgs s_written) (defBody s_written) (defScope s_written) .none kV6 dc6 pm6 an6 cd6 ct6), sl6⟩)
    (c6 : PySem.W.codeIn K cd6 "written" = true)
    (k6 : PySem.W.keepIn K (.ref f6) = true)
    (a7 : PySem.W.nsIn K mainGlobals "number_of" = some (some (.ref f7)))
    (l7 : K.lookup f7 = some ⟨oc7, od7, .func (PySem.W.fnOf "number_of" "number_of" (defArgs s_number_of) (defBody s_number_of) (defScope s_number_of) .none kV7 dc7 pm7 an7 cd7 ct7), sl7⟩)
    (c7 : PySem.W.codeIn K cd7 "number_of" = true)
    (k7 : PySem.W.keepIn K (.ref f7) = true)
    (a8 : PySem.W.nsIn K mainGlobals "numbers_of" = some (some (.ref f8)))
    (l8 : K.lookup f8 = some ⟨oc8, od8, .func (PySem.W.fnOf "numbers_of" "numbers_of" (defArgs s_numbers_of) (defBody s_numbers_of) (defScope s_numbers_of) .none kV8 dc8 pm8 an8 cd8 ct8), sl8⟩)
    (c8 : PySem.W.codeIn K cd8 "numbers_of" = true)
    (k8 : PySem.W.keepIn K (.ref f8) = true)
    (a9 : PySem.W.nsIn K mainGlobals "row_of" = some (some (.ref f9)))
    (l9 : K.lookup f9 = some ⟨oc9, od9, .func (PySem.W.fnOf "row_of" "row_of" (defArgs s_row_of) (defBody s_row_of) (defScope s_row_of) .none kV9 dc9 pm9 an9 cd9 ct9), sl9⟩)
    (c9 : PySem.W.codeIn K cd9 "row_of" = true)
    (k9 : PySem.W.keepIn K (.ref f9) = true)
    (a10 : PySem.W.nsIn K mainGlobals "read" = some (some (.ref f10)))
    (l10 : K.lookup f10 = some ⟨oc10, od10, .func (PySem.W.fnOf "read" "read" (defArgs s_read) (defBody s_read) (defScope s_read) .none kV10 dc10 pm10 an10 cd10 ct10), sl10⟩)
    (c10 : PySem.W.codeIn K cd10 "read" = true)
    (k10 : PySem.W.keepIn K (.ref f10) = true)
    (a11 : PySem.W.nsIn K mainGlobals "_law_dice" = some (some (.ref f11)))
    (l11 : K.lookup f11 = some ⟨oc11, od11, .func (PySem.W.fnOf "_law_dice" "_law_dice" (defArgs s__law_dice) (defBody s__law_dice) (defScope s__law_dice) .none kV11 dc11 pm11 an11 cd11 ct11), sl11⟩)
    (c11 : PySem.W.codeIn K cd11 "_law_dice" = true)
    (k11 : PySem.W.keepIn K (.ref f11) = true)
    (a12 : PySem.W.nsIn K mainGlobals "_law_off" = some (some (.ref f12)))
    (l12 : K.lookup f12 = some ⟨oc12, od12, .func (PySem.W.fnOf "_law_off" "_law_off" (defArgs s__law_off) (defBody s__law_off) (defScope s__law_off) .none kV12 dc12 pm12 an12 cd12 ct12), sl12⟩)
    (c12 : PySem.W.codeIn K cd12 "_law_off" = true)
    (k12 : PySem.W.keepIn K (.ref f12) = true)
    (a13 : PySem.W.nsIn K mainGlobals "_law_alike" = some (some (.ref f13)))
    (l13 : K.lookup f13 = some ⟨oc13, od13, .func (PySem.W.fnOf "_law_alike" "_law_alike" (defArgs s__law_alike) (defBody s__law_alike) (defScope s__law_alike) .none kV13 dc13 pm13 an13 cd13 ct13), sl13⟩)
    (c13 : PySem.W.codeIn K cd13 "_law_alike" = true)
    (k13 : PySem.W.keepIn K (.ref f13) = true)
    (a14 : PySem.W.nsIn K mainGlobals "_law_mixed" = some (some (.ref f14)))
    (l14 : K.lookup f14 = some ⟨oc14, od14, .func (PySem.W.fnOf "_law_mixed" "_law_mixed" (defArgs s__law_mixed) (defBody s__law_mixed) (defScope s__law_mixed) .none kV14 dc14 pm14 an14 cd14 ct14), sl14⟩)
    (c14 : PySem.W.codeIn K cd14 "_law_mixed" = true)
    (k14 : PySem.W.keepIn K (.ref f14) = true)
    (a15 : PySem.W.nsIn K mainGlobals "_law_word" = some (some (.ref f15)))
    (l15 : K.lookup f15 = some ⟨oc15, od15, .func (PySem.W.fnOf "_law_word" "_law_word" (defArgs s__law_word) (defBody s__law_word) (defScope s__law_word) .none kV15 dc15 pm15 an15 cd15 ct15), sl15⟩)
    (c15 : PySem.W.codeIn K cd15 "_law_word" = true)
    (k15 : PySem.W.keepIn K (.ref f15) = true)
    (a16 : PySem.W.nsIn K mainGlobals "_law_times" = some (some (.ref f16)))
    (l16 : K.lookup f16 = some ⟨oc16, od16, .func (PySem.W.fnOf "_law_times" "_law_times" (defArgs s__law_times) (defBody s__law_times) (defScope s__law_times) .none kV16 dc16 pm16 an16 cd16 ct16), sl16⟩)
    (c16 : PySem.W.codeIn K cd16 "_law_times" = true)
    (k16 : PySem.W.keepIn K (.ref f16) = true)
    (a17 : PySem.W.nsIn K mainGlobals "_law_plan" = some (some (.ref f17)))
    (l17 : K.lookup f17 = some ⟨oc17, od17, .func (PySem.W.fnOf "_law_plan" "_law_plan" (defArgs s__law_plan) (defBody s__law_plan) (defScope s__law_plan) .none kV17 dc17 pm17 an17 cd17 ct17), sl17⟩)
    (c17 : PySem.W.codeIn K cd17 "_law_plan" = true)
    (k17 : PySem.W.keepIn K (.ref f17) = true)
    (a18 : PySem.W.nsIn K mainGlobals "_law_number" = some (some (.ref f18)))
    (l18 : K.lookup f18 = some ⟨oc18, od18, .func (PySem.W.fnOf "_law_number" "_law_number" (defArgs s__law_number) (defBody s__law_number) (defScope s__law_number) .none kV18 dc18 pm18 an18 cd18 ct18), sl18⟩)
    (c18 : PySem.W.codeIn K cd18 "_law_number" = true)
    (k18 : PySem.W.keepIn K (.ref f18) = true)
    (a19 : PySem.W.nsIn K mainGlobals "_law_row" = some (some (.ref f19)))
    (l19 : K.lookup f19 = some ⟨oc19, od19, .func (PySem.W.fnOf "_law_row" "_law_row" (defArgs s__law_row) (defBody s__law_row) (defScope s__law_row) .none kV19 dc19 pm19 an19 cd19 ct19), sl19⟩)
    (c19 : PySem.W.codeIn K cd19 "_law_row" = true)
    (k19 : PySem.W.keepIn K (.ref f19) = true)
    (a20 : PySem.W.nsIn K mainGlobals "_law_changed" = some (some (.ref f20)))
    (l20 : K.lookup f20 = some ⟨oc20, od20, .func (PySem.W.fnOf "_law_changed" "_law_changed" (defArgs s__law_changed) (defBody s__law_changed) (defScope s__law_changed) .none kV20 dc20 pm20 an20 cd20 ct20), sl20⟩)
    (c20 : PySem.W.codeIn K cd20 "_law_changed" = true)
    (k20 : PySem.W.keepIn K (.ref f20) = true)
    (a21 : PySem.W.nsIn K mainGlobals "law" = some (some (.ref f21)))
    (l21 : K.lookup f21 = some ⟨oc21, od21, .func (PySem.W.fnOf "law" "law" (defArgs s_law) (defBody s_law) (defScope s_law) .none kV21 dc21 pm21 an21 cd21 ct21), sl21⟩)
    (c21 : PySem.W.codeIn K cd21 "law" = true)
    (k21 : PySem.W.keepIn K (.ref f21) = true)
    (aKeepError : PySem.W.nsIn K mainGlobals "KeepError" = some (some (.ref ZKeepError)))
    (icKeepError : PySem.W.isClsIn K ZKeepError = true)
    (tcKeepError : PySem.W.typeIn K (.ref ZKeepError) = some (.type "type"))
    (bsKeepError : PySem.W.subIn K (.ref ZKeepError) (.type "BaseException") = some true)
    (aBadPlan : PySem.W.nsIn K mainGlobals "BadPlan" = some (some (.ref ZBadPlan)))
    (icBadPlan : PySem.W.isClsIn K ZBadPlan = true)
    (tcBadPlan : PySem.W.typeIn K (.ref ZBadPlan) = some (.type "type"))
    (bsBadPlan : PySem.W.subIn K (.ref ZBadPlan) (.type "BaseException") = some true)
    (aBadRing : PySem.W.nsIn K mainGlobals "BadRing" = some (some (.ref ZBadRing)))
    (icBadRing : PySem.W.isClsIn K ZBadRing = true)
    (tcBadRing : PySem.W.typeIn K (.ref ZBadRing) = some (.type "type"))
    (bsBadRing : PySem.W.subIn K (.ref ZBadRing) (.type "BaseException") = some true)
    (aBadService : PySem.W.nsIn K mainGlobals "BadService" = some (some (.ref ZBadService)))
    (icBadService : PySem.W.isClsIn K ZBadService = true)
    (tcBadService : PySem.W.typeIn K (.ref ZBadService) = some (.type "type"))
    (bsBadService : PySem.W.subIn K (.ref ZBadService) (.type "BaseException") = some true)
    (aBadBeats : PySem.W.nsIn K mainGlobals "BadBeats" = some (some (.ref ZBadBeats)))
    (icBadBeats : PySem.W.isClsIn K ZBadBeats = true)
    (tcBadBeats : PySem.W.typeIn K (.ref ZBadBeats) = some (.type "type"))
    (bsBadBeats : PySem.W.subIn K (.ref ZBadBeats) (.type "BaseException") = some true)
    (aBadLog : PySem.W.nsIn K mainGlobals "BadLog" = some (some (.ref ZBadLog)))
    (icBadLog : PySem.W.isClsIn K ZBadLog = true)
    (tcBadLog : PySem.W.typeIn K (.ref ZBadLog) = some (.type "type"))
    (bsBadLog : PySem.W.subIn K (.ref ZBadLog) (.type "BaseException") = some true)
    (aBadText : PySem.W.nsIn K mainGlobals "BadText" = some (some (.ref ZBadText)))
    (icBadText : PySem.W.isClsIn K ZBadText = true)
    (tcBadText : PySem.W.typeIn K (.ref ZBadText) = some (.type "type"))
    (bsBadText : PySem.W.subIn K (.ref ZBadText) (.type "BaseException") = some true)
    (exn : PySem.W.specialIn K (.builtin "object.__class__") "__get__" = some (some (.builtin "getset_descriptor.__get__")))
    (ext : PySem.W.takesIn K (.builtin "object.__class__") = some true)
    (hgBadPlan : PySem.W.findIn K (.ref ZBadPlan) "__getattribute__" = some (some (.builtin "BaseException.__getattribute__")))
    (hkBadPlan : PySem.W.findIn K (.ref ZBadPlan) "__getattr__" = some none)
    (hdBadPlan : PySem.W.hasDictIn K ZBadPlan = true)
    (haBadPlan : PySem.W.findIn K (.ref ZBadPlan) "__class__" = some (some (.builtin "object.__class__")))
    (hmBadPlan : PySem.W.mroIn K ZBadPlan (.type "object") = some true)
    (skBadPlan : PySem.W.subIn K (.ref ZBadPlan) (.ref ZKeepError) = some true)
    (svBadPlan : PySem.W.subIn K (.ref ZBadPlan) (.type "ValueError") = some true)
    (sBadPlan_BadPlan : PySem.W.subIn K (.ref ZBadPlan) (.ref ZBadPlan) = some true)
    (sBadPlan_BadRing : PySem.W.subIn K (.ref ZBadPlan) (.ref ZBadRing) = some false)
    (sBadPlan_BadService : PySem.W.subIn K (.ref ZBadPlan) (.ref ZBadService) = some false)
    (sBadPlan_BadBeats : PySem.W.subIn K (.ref ZBadPlan) (.ref ZBadBeats) = some false)
    (sBadPlan_BadLog : PySem.W.subIn K (.ref ZBadPlan) (.ref ZBadLog) = some false)
    (sBadPlan_BadText : PySem.W.subIn K (.ref ZBadPlan) (.ref ZBadText) = some false)
    (nfBadPlan : PySem.W.findIn K (.ref ZBadPlan) "number" = some none)
    (kcBadPlan : PySem.W.keepIn K (.ref ZBadPlan) = true)
    (saBadPlan : PySem.W.findIn K (.ref ZBadPlan) "__setattr__" = some (some (.builtin "object.__setattr__")))
    (xlBadPlan : K.lookup ZBadPlan = some (excClassObj nm_xBadPlan qn_xBadPlan ZBadPlan NBadPlan bs_xBadPlan [.ref ZKeepError, .type "ValueError", .type "Exception", .type "BaseException", .type "object"] true sn_xBadPlan sub_xBadPlan ab_xBadPlan col_xBadPlan dd_xBadPlan k0_xBadPlan k1_xBadPlan k2_xBadPlan k3_xBadPlan k5_xBadPlan "ValueError.__new__"))
    (a_xBadPlan : PySem.W.findIn K (.ref ZBadPlan) "__init__" = some (some (.ref f_xBadPlan)))
    (i_xBadPlan : PySem.W.typeIn K (.ref f_xBadPlan) = some (.type "function"))
    (l_xBadPlan : K.lookup f_xBadPlan = some ⟨oc_xBadPlan, od_xBadPlan, .func (PySem.W.fnOf "__init__" "BadPlan.__init__" (defArgs s_BadPlan___init__) (defBody s_BadPlan___init__) (defScope s_BadPlan___init__) .none kV_xBadPlan dc_xBadPlan pm_xBadPlan an_xBadPlan cd_xBadPlan ct_xBadPlan), sl_xBadPlan⟩)
    (c_xBadPlan : PySem.W.codeIn K cd_xBadPlan "BadPlan.__init__" = true)
    (k_xBadPlan : PySem.W.keepIn K (.ref f_xBadPlan) = true)
    (hgBadRing : PySem.W.findIn K (.ref ZBadRing) "__getattribute__" = some (some (.builtin "BaseException.__getattribute__")))
    (hkBadRing : PySem.W.findIn K (.ref ZBadRing) "__getattr__" = some none)
    (hdBadRing : PySem.W.hasDictIn K ZBadRing = true)
    (haBadRing : PySem.W.findIn K (.ref ZBadRing) "__class__" = some (some (.builtin "object.__class__")))
    (hmBadRing : PySem.W.mroIn K ZBadRing (.type "object") = some true)
    (skBadRing : PySem.W.subIn K (.ref ZBadRing) (.ref ZKeepError) = some true)
    (svBadRing : PySem.W.subIn K (.ref ZBadRing) (.type "ValueError") = some true)
    (sBadRing_BadPlan : PySem.W.subIn K (.ref ZBadRing) (.ref ZBadPlan) = some false)
    (sBadRing_BadRing : PySem.W.subIn K (.ref ZBadRing) (.ref ZBadRing) = some true)
    (sBadRing_BadService : PySem.W.subIn K (.ref ZBadRing) (.ref ZBadService) = some false)
    (sBadRing_BadBeats : PySem.W.subIn K (.ref ZBadRing) (.ref ZBadBeats) = some false)
    (sBadRing_BadLog : PySem.W.subIn K (.ref ZBadRing) (.ref ZBadLog) = some false)
    (sBadRing_BadText : PySem.W.subIn K (.ref ZBadRing) (.ref ZBadText) = some false)
    (nfBadRing : PySem.W.findIn K (.ref ZBadRing) "ring" = some none)
    (kcBadRing : PySem.W.keepIn K (.ref ZBadRing) = true)
    (saBadRing : PySem.W.findIn K (.ref ZBadRing) "__setattr__" = some (some (.builtin "object.__setattr__")))
    (xlBadRing : K.lookup ZBadRing = some (excClassObj nm_xBadRing qn_xBadRing ZBadRing NBadRing bs_xBadRing [.ref ZKeepError, .type "ValueError", .type "Exception", .type "BaseException", .type "object"] true sn_xBadRing sub_xBadRing ab_xBadRing col_xBadRing dd_xBadRing k0_xBadRing k1_xBadRing k2_xBadRing k3_xBadRing k5_xBadRing "ValueError.__new__"))
    (a_xBadRing : PySem.W.findIn K (.ref ZBadRing) "__init__" = some (some (.ref f_xBadRing)))
    (i_xBadRing : PySem.W.typeIn K (.ref f_xBadRing) = some (.type "function"))
    (l_xBadRing : K.lookup f_xBadRing = some ⟨oc_xBadRing, od_xBadRing, .func (PySem.W.fnOf "__init__" "BadRing.__init__" (defArgs s_BadRing___init__) (defBody s_BadRing___init__) (defScope s_BadRing___init__) .none kV_xBadRing dc_xBadRing pm_xBadRing an_xBadRing cd_xBadRing ct_xBadRing), sl_xBadRing⟩)
    (c_xBadRing : PySem.W.codeIn K cd_xBadRing "BadRing.__init__" = true)
    (k_xBadRing : PySem.W.keepIn K (.ref f_xBadRing) = true)
    (hgBadService : PySem.W.findIn K (.ref ZBadService) "__getattribute__" = some (some (.builtin "BaseException.__getattribute__")))
    (hkBadService : PySem.W.findIn K (.ref ZBadService) "__getattr__" = some none)
    (hdBadService : PySem.W.hasDictIn K ZBadService = true)
    (haBadService : PySem.W.findIn K (.ref ZBadService) "__class__" = some (some (.builtin "object.__class__")))
    (hmBadService : PySem.W.mroIn K ZBadService (.type "object") = some true)
    (skBadService : PySem.W.subIn K (.ref ZBadService) (.ref ZKeepError) = some true)
    (svBadService : PySem.W.subIn K (.ref ZBadService) (.type "ValueError") = some true)
    (sBadService_BadPlan : PySem.W.subIn K (.ref ZBadService) (.ref ZBadPlan) = some false)
    (sBadService_BadRing : PySem.W.subIn K (.ref ZBadService) (.ref ZBadRing) = some false)
    (sBadService_BadService : PySem.W.subIn K (.ref ZBadService) (.ref ZBadService) = some true)
    (sBadService_BadBeats : PySem.W.subIn K (.ref ZBadService) (.ref ZBadBeats) = some false)
    (sBadService_BadLog : PySem.W.subIn K (.ref ZBadService) (.ref ZBadLog) = some false)
    (sBadService_BadText : PySem.W.subIn K (.ref ZBadService) (.ref ZBadText) = some false)
    (hgBadBeats : PySem.W.findIn K (.ref ZBadBeats) "__getattribute__" = some (some (.builtin "BaseException.__getattribute__")))
    (hkBadBeats : PySem.W.findIn K (.ref ZBadBeats) "__getattr__" = some none)
    (hdBadBeats : PySem.W.hasDictIn K ZBadBeats = true)
    (haBadBeats : PySem.W.findIn K (.ref ZBadBeats) "__class__" = some (some (.builtin "object.__class__")))
    (hmBadBeats : PySem.W.mroIn K ZBadBeats (.type "object") = some true)
    (skBadBeats : PySem.W.subIn K (.ref ZBadBeats) (.ref ZKeepError) = some true)
    (svBadBeats : PySem.W.subIn K (.ref ZBadBeats) (.type "ValueError") = some true)
    (sBadBeats_BadPlan : PySem.W.subIn K (.ref ZBadBeats) (.ref ZBadPlan) = some false)
    (sBadBeats_BadRing : PySem.W.subIn K (.ref ZBadBeats) (.ref ZBadRing) = some false)
    (sBadBeats_BadService : PySem.W.subIn K (.ref ZBadBeats) (.ref ZBadService) = some false)
    (sBadBeats_BadBeats : PySem.W.subIn K (.ref ZBadBeats) (.ref ZBadBeats) = some true)
    (sBadBeats_BadLog : PySem.W.subIn K (.ref ZBadBeats) (.ref ZBadLog) = some false)
    (sBadBeats_BadText : PySem.W.subIn K (.ref ZBadBeats) (.ref ZBadText) = some false)
    (hgBadLog : PySem.W.findIn K (.ref ZBadLog) "__getattribute__" = some (some (.builtin "BaseException.__getattribute__")))
    (hkBadLog : PySem.W.findIn K (.ref ZBadLog) "__getattr__" = some none)
    (hdBadLog : PySem.W.hasDictIn K ZBadLog = true)
    (haBadLog : PySem.W.findIn K (.ref ZBadLog) "__class__" = some (some (.builtin "object.__class__")))
    (hmBadLog : PySem.W.mroIn K ZBadLog (.type "object") = some true)
    (skBadLog : PySem.W.subIn K (.ref ZBadLog) (.ref ZKeepError) = some true)
    (svBadLog : PySem.W.subIn K (.ref ZBadLog) (.type "ValueError") = some true)
    (sBadLog_BadPlan : PySem.W.subIn K (.ref ZBadLog) (.ref ZBadPlan) = some false)
    (sBadLog_BadRing : PySem.W.subIn K (.ref ZBadLog) (.ref ZBadRing) = some false)
    (sBadLog_BadService : PySem.W.subIn K (.ref ZBadLog) (.ref ZBadService) = some false)
    (sBadLog_BadBeats : PySem.W.subIn K (.ref ZBadLog) (.ref ZBadBeats) = some false)
    (sBadLog_BadLog : PySem.W.subIn K (.ref ZBadLog) (.ref ZBadLog) = some true)
    (sBadLog_BadText : PySem.W.subIn K (.ref ZBadLog) (.ref ZBadText) = some false)
    (nfBadLog : PySem.W.findIn K (.ref ZBadLog) "row" = some none)
    (hgBadText : PySem.W.findIn K (.ref ZBadText) "__getattribute__" = some (some (.builtin "BaseException.__getattribute__")))
    (hkBadText : PySem.W.findIn K (.ref ZBadText) "__getattr__" = some none)
    (hdBadText : PySem.W.hasDictIn K ZBadText = true)
    (haBadText : PySem.W.findIn K (.ref ZBadText) "__class__" = some (some (.builtin "object.__class__")))
    (hmBadText : PySem.W.mroIn K ZBadText (.type "object") = some true)
    (skBadText : PySem.W.subIn K (.ref ZBadText) (.ref ZKeepError) = some true)
    (svBadText : PySem.W.subIn K (.ref ZBadText) (.type "ValueError") = some true)
    (sBadText_BadPlan : PySem.W.subIn K (.ref ZBadText) (.ref ZBadPlan) = some false)
    (sBadText_BadRing : PySem.W.subIn K (.ref ZBadText) (.ref ZBadRing) = some false)
    (sBadText_BadService : PySem.W.subIn K (.ref ZBadText) (.ref ZBadService) = some false)
    (sBadText_BadBeats : PySem.W.subIn K (.ref ZBadText) (.ref ZBadBeats) = some false)
    (sBadText_BadLog : PySem.W.subIn K (.ref ZBadText) (.ref ZBadLog) = some false)
    (sBadText_BadText : PySem.W.subIn K (.ref ZBadText) (.ref ZBadText) = some true)
    (nfBadText : PySem.W.findIn K (.ref ZBadText) "row" = some none)
    (kcBadText : PySem.W.keepIn K (.ref ZBadText) = true)
    (saBadText : PySem.W.findIn K (.ref ZBadText) "__setattr__" = some (some (.builtin "object.__setattr__")))
    (xlBadText : K.lookup ZBadText = some (excClassObj nm_xBadText qn_xBadText ZBadText NBadText bs_xBadText [.ref ZKeepError, .type "ValueError", .type "Exception", .type "BaseException", .type "object"] true sn_xBadText sub_xBadText ab_xBadText col_xBadText dd_xBadText k0_xBadText k1_xBadText k2_xBadText k3_xBadText k5_xBadText "ValueError.__new__"))
    (a_xBadText : PySem.W.findIn K (.ref ZBadText) "__init__" = some (some (.ref f_xBadText)))
    (i_xBadText : PySem.W.typeIn K (.ref f_xBadText) = some (.type "function"))
    (l_xBadText : K.lookup f_xBadText = some ⟨oc_xBadText, od_xBadText, .func (PySem.W.fnOf "__init__" "BadText.__init__" (defArgs s_BadText___init__) (defBody s_BadText___init__) (defScope s_BadText___init__) .none kV_xBadText dc_xBadText pm_xBadText an_xBadText cd_xBadText ct_xBadText), sl_xBadText⟩)
    (c_xBadText : PySem.W.codeIn K cd_xBadText "BadText.__init__" = true)
    (k_xBadText : PySem.W.keepIn K (.ref f_xBadText) = true)
    (rdK : PySem.W.readsIn K ZKeepError (.type "type") = true)
    (gaK : PySem.W.specialIn K (.ref ZKeepError) "__getattribute__" = some (some (.builtin "type.__getattribute__")))
    (fcK : PySem.W.findCls K (.ref ZKeepError) (.type "type") "__init__" = some (.val (.builtin "ValueError.__init__")))
    (qMOST_SERVICES : PySem.W.nsIn K mainGlobals "MOST_SERVICES" = some (some (.int 12 tMOST_SERVICES)))
    (qBOUNDS : PySem.W.nsIn K mainGlobals "BOUNDS" = some (some (.ref bBOUNDS)))
    (yBOUNDS_0 : K.lookup bBOUNDS_0 = some ⟨.type "tuple", oBOUNDS_0, .seq iBOUNDS_0 nBOUNDS_0, sBOUNDS_0⟩) (wBOUNDS_0 : iBOUNDS_0 = #[.int 1 tBOUNDS_0_0, .int 20 tBOUNDS_0_1])
    (yBOUNDS_1 : K.lookup bBOUNDS_1 = some ⟨.type "tuple", oBOUNDS_1, .seq iBOUNDS_1 nBOUNDS_1, sBOUNDS_1⟩) (wBOUNDS_1 : iBOUNDS_1 = #[.int 1 tBOUNDS_1_0, .int 20 tBOUNDS_1_1])
    (yBOUNDS_2 : K.lookup bBOUNDS_2 = some ⟨.type "tuple", oBOUNDS_2, .seq iBOUNDS_2 nBOUNDS_2, sBOUNDS_2⟩) (wBOUNDS_2 : iBOUNDS_2 = #[.int 1 tBOUNDS_2_0, .int 20 tBOUNDS_2_1])
    (yBOUNDS_3 : K.lookup bBOUNDS_3 = some ⟨.type "tuple", oBOUNDS_3, .seq iBOUNDS_3 nBOUNDS_3, sBOUNDS_3⟩) (wBOUNDS_3 : iBOUNDS_3 = #[.int 1 tBOUNDS_3_0, .int 50 tBOUNDS_3_1])
    (yBOUNDS_4 : K.lookup bBOUNDS_4 = some ⟨.type "tuple", oBOUNDS_4, .seq iBOUNDS_4 nBOUNDS_4, sBOUNDS_4⟩) (wBOUNDS_4 : iBOUNDS_4 = #[.int 1 tBOUNDS_4_0, .int 9 tBOUNDS_4_1])
    (yBOUNDS : K.lookup bBOUNDS = some ⟨.type "tuple", oBOUNDS, .seq iBOUNDS nBOUNDS, sBOUNDS⟩) (wBOUNDS : iBOUNDS = #[.ref bBOUNDS_0, .ref bBOUNDS_1, .ref bBOUNDS_2, .ref bBOUNDS_3, .ref bBOUNDS_4])
    (qFIGURES : PySem.W.nsIn K mainGlobals "FIGURES" = some (some (.str "0123456789" tFIGURES)))
    (qNONE : PySem.W.nsIn K mainGlobals "NONE" = some (some (.str "-" tNONE)))
    (zlen : PySem.W.nsIn K mainGlobals "len" = some none)
    (zrange : PySem.W.nsIn K mainGlobals "range" = some none)
    (zsorted : PySem.W.nsIn K mainGlobals "sorted" = some none)
    (zset : PySem.W.nsIn K mainGlobals "set" = some none)
    (zisinstance : PySem.W.nsIn K mainGlobals "isinstance" = some none)
    (zenumerate : PySem.W.nsIn K mainGlobals "enumerate" = some none)
    (zlist : PySem.W.nsIn K mainGlobals "list" = some none)
    (ztuple : PySem.W.nsIn K mainGlobals "tuple" = some none)
    (zabs : PySem.W.nsIn K mainGlobals "abs" = some none)
    (zmin : PySem.W.nsIn K mainGlobals "min" = some none)
    (zmax : PySem.W.nsIn K mainGlobals "max" = some none)
    (zint : PySem.W.nsIn K mainGlobals "int" = some none)
    (zstr : PySem.W.nsIn K mainGlobals "str" = some none)
    (zbool : PySem.W.nsIn K mainGlobals "bool" = some none)
    (zdict : PySem.W.nsIn K mainGlobals "dict" = some none)
    (zall : PySem.W.nsIn K mainGlobals "all" = some none)
    (zsum : PySem.W.nsIn K mainGlobals "sum" = some none)
    (zValueError : PySem.W.nsIn K mainGlobals "ValueError" = some none)
    (wL : cd21 = .ref cL)
    (lL : K.lookup cL = some ⟨.type "code", odL, .fields vsL, slL⟩)
    (w11 : vsL[11]? = some (.ref PL))
    (w18 : vsL.getD 18 .none = .str fiL tfL)
    (w7 : vsL.getD 7 .none = .int flL tgL)
    (w9 : vsL.getD 9 .none = .bool inL)
    (w10 : vsL.getD 10 .none = .int txL ttL)
    (wnP : K.lookup PL = none)
    : LamX.LawAtS l w K CX0 8 63 "_law_script" mg fa h := by
  have e := hfa.symm.trans (PySem.W.mg_of X G a21)
  cases e
  subst wL
  have F0 := fun_mk (st := s_is_between) l0 c0 k0
  have D_is_between : Df K mg "is_between" s_is_between ["part", "low", "high"] := df_of F0 (PySem.W.mg_of X G a0) (F0.binds fun _ _ _ _ _ _ us hl => match us, hl with | [_, _, _], _ => rfl)
  have F1 := fun_mk (st := s_is_service) l1 c1 k1
  have D_is_service : Df K mg "is_service" s_is_service ["service", "many", "number"] := df_of F1 (PySem.W.mg_of X G a1) (F1.binds fun _ _ _ _ _ _ us hl => match us, hl with | [_, _, _], _ => rfl)
  have F2 := fun_mk (st := s_ring_from) l2 c2 k2
  have D_ring_from : Df K mg "ring_from" s_ring_from ["plan", "begin"] := df_of F2 (PySem.W.mg_of X G a2) (F2.binds fun _ _ _ _ _ _ us hl => match us, hl with | [_, _], _ => rfl)
  have F3 := fun_mk (st := s_first_ring) l3 c3 k3
  have D_first_ring : Df K mg "first_ring" s_first_ring ["plan"] := df_of F3 (PySem.W.mg_of X G a3) (F3.binds fun _ _ _ _ _ _ us hl => match us, hl with | [_], _ => rfl)
  have F4 := fun_mk (st := s_need_services) l4 c4 k4
  have D_need_services : Df K mg "need_services" s_need_services ["plan"] := df_of F4 (PySem.W.mg_of X G a4) (F4.binds fun _ _ _ _ _ _ us hl => match us, hl with | [_], _ => rfl)
  have F5 := fun_mk (st := s_need_plan) l5 c5 k5
  have D_need_plan : Df K mg "need_plan" s_need_plan ["plan"] := df_of F5 (PySem.W.mg_of X G a5) (F5.binds fun _ _ _ _ _ _ us hl => match us, hl with | [_], _ => rfl)
  have F6 := fun_mk (st := s_written) l6 c6 k6
  have D_written : Df K mg "written" s_written ["plan"] := df_of F6 (PySem.W.mg_of X G a6) (F6.binds fun _ _ _ _ _ _ us hl => match us, hl with | [_], _ => rfl)
  have F7 := fun_mk (st := s_number_of) l7 c7 k7
  have D_number_of : Df K mg "number_of" s_number_of ["word"] := df_of F7 (PySem.W.mg_of X G a7) (F7.binds fun _ _ _ _ _ _ us hl => match us, hl with | [_], _ => rfl)
  have F8 := fun_mk (st := s_numbers_of) l8 c8 k8
  have D_numbers_of : Df K mg "numbers_of" s_numbers_of ["words"] := df_of F8 (PySem.W.mg_of X G a8) (F8.binds fun _ _ _ _ _ _ us hl => match us, hl with | [_], _ => rfl)
  have F9 := fun_mk (st := s_row_of) l9 c9 k9
  have D_row_of : Df K mg "row_of" s_row_of ["line"] := df_of F9 (PySem.W.mg_of X G a9) (F9.binds fun _ _ _ _ _ _ us hl => match us, hl with | [_], _ => rfl)
  have F10 := fun_mk (st := s_read) l10 c10 k10
  have D_read : Df K mg "read" s_read ["text"] := df_of F10 (PySem.W.mg_of X G a10) (F10.binds fun _ _ _ _ _ _ us hl => match us, hl with | [_], _ => rfl)
  have F11 := fun_mk (st := s__law_dice) l11 c11 k11
  have D__law_dice : Df K mg "_law_dice" s__law_dice ["_law_script", "_law_k"] := df_of F11 (PySem.W.mg_of X G a11) (F11.binds fun _ _ _ _ _ _ us hl => match us, hl with | [_, _], _ => rfl)
  have F12 := fun_mk (st := s__law_off) l12 c12 k12
  have D__law_off : Df K mg "_law_off" s__law_off ["_law_d", "_law_most"] := df_of F12 (PySem.W.mg_of X G a12) (F12.binds fun _ _ _ _ _ _ us hl => match us, hl with | [_, _], _ => rfl)
  have F13 := fun_mk (st := s__law_alike) l13 c13 k13
  have D__law_alike : Df K mg "_law_alike" s__law_alike ["_law_found", "_law_due"] := df_of F13 (PySem.W.mg_of X G a13) (F13.binds fun _ _ _ _ _ _ us hl => match us, hl with | [_, _], _ => rfl)
  have F14 := fun_mk (st := s__law_mixed) l14 c14 k14
  have D__law_mixed : Df K mg "_law_mixed" s__law_mixed ["_law_d", "_law_row_here"] := df_of F14 (PySem.W.mg_of X G a14) (F14.binds fun _ _ _ _ _ _ us hl => match us, hl with | [_, _], _ => rfl)
  have F15 := fun_mk (st := s__law_word) l15 c15 k15
  have D__law_word : Df K mg "_law_word" s__law_word ["_law_work"] := df_of F15 (PySem.W.mg_of X G a15) (F15.binds fun _ _ _ _ _ _ us hl => match us, hl with | [_], _ => rfl)
  have F16 := fun_mk (st := s__law_times) l16 c16 k16
  have D__law_times : Df K mg "_law_times" s__law_times ["_law_d"] := df_of F16 (PySem.W.mg_of X G a16) (F16.binds fun _ _ _ _ _ _ us hl => match us, hl with | [_], _ => rfl)
  have F17 := fun_mk (st := s__law_plan) l17 c17 k17
  have D__law_plan : Df K mg "_law_plan" s__law_plan ["_law_d", "_law_limit"] := df_of F17 (PySem.W.mg_of X G a17) (F17.binds fun _ _ _ _ _ _ us hl => match us, hl with | [_, _], _ => rfl)
  have F18 := fun_mk (st := s__law_number) l18 c18 k18
  have D__law_number : Df K mg "_law_number" s__law_number ["_law_word_here"] := df_of F18 (PySem.W.mg_of X G a18) (F18.binds fun _ _ _ _ _ _ us hl => match us, hl with | [_], _ => rfl)
  have F19 := fun_mk (st := s__law_row) l19 c19 k19
  have D__law_row : Df K mg "_law_row" s__law_row ["_law_row_here"] := df_of F19 (PySem.W.mg_of X G a19) (F19.binds fun _ _ _ _ _ _ us hl => match us, hl with | [_], _ => rfl)
  have F20 := fun_mk (st := s__law_changed) l20 c20 k20
  have D__law_changed : Df K mg "_law_changed" s__law_changed ["_law_d", "_law_text"] := df_of F20 (PySem.W.mg_of X G a20) (F20.binds fun _ _ _ _ _ _ us hl => match us, hl with | [_, _], _ => rfl)
  have is_BadPlan : ExcC K ZBadPlan := ⟨hgBadPlan, hkBadPlan, bsBadPlan, hdBadPlan, haBadPlan, exn, ext, hmBadPlan⟩
  have F_xBadPlan := fun_mk (st := s_BadPlan___init__) l_xBadPlan c_xBadPlan k_xBadPlan
  have D_BadPlan : DfX K mg ZBadPlan "BadPlan" "number" "BadPlan.__init__" s_BadPlan___init__ := ⟨PySem.W.mg_of X G aBadPlan, ⟨⟨_, _, _, _, _, _, _, _, _, _, _, _, _, _, _, xlBadPlan, (by show PySem.HandSPX.refsVE [.type "ValueError", .type "Exception", .type "BaseException", .type "object"] = true; decide +kernel)⟩, saBadPlan, bsBadPlan, tcBadPlan, kcBadPlan⟩, is_BadPlan, nfBadPlan, ⟨_, _, F_xBadPlan, a_xBadPlan, i_xBadPlan, (F_xBadPlan.binds fun _ _ _ _ _ _ us hl => match us, hl with | [_, _], _ => rfl)⟩⟩
  have is_BadRing : ExcC K ZBadRing := ⟨hgBadRing, hkBadRing, bsBadRing, hdBadRing, haBadRing, exn, ext, hmBadRing⟩
  have F_xBadRing := fun_mk (st := s_BadRing___init__) l_xBadRing c_xBadRing k_xBadRing
  have D_BadRing : DfX K mg ZBadRing "BadRing" "ring" "BadRing.__init__" s_BadRing___init__ := ⟨PySem.W.mg_of X G aBadRing, ⟨⟨_, _, _, _, _, _, _, _, _, _, _, _, _, _, _, xlBadRing, (by show PySem.HandSPX.refsVE [.type "ValueError", .type "Exception", .type "BaseException", .type "object"] = true; decide +kernel)⟩, saBadRing, bsBadRing, tcBadRing, kcBadRing⟩, is_BadRing, nfBadRing, ⟨_, _, F_xBadRing, a_xBadRing, i_xBadRing, (F_xBadRing.binds fun _ _ _ _ _ _ us hl => match us, hl with | [_, _], _ => rfl)⟩⟩
  have is_BadService : ExcC K ZBadService := ⟨hgBadService, hkBadService, bsBadService, hdBadService, haBadService, exn, ext, hmBadService⟩
  have is_BadBeats : ExcC K ZBadBeats := ⟨hgBadBeats, hkBadBeats, bsBadBeats, hdBadBeats, haBadBeats, exn, ext, hmBadBeats⟩
  have is_BadLog : ExcC K ZBadLog := ⟨hgBadLog, hkBadLog, bsBadLog, hdBadLog, haBadLog, exn, ext, hmBadLog⟩
  have is_BadText : ExcC K ZBadText := ⟨hgBadText, hkBadText, bsBadText, hdBadText, haBadText, exn, ext, hmBadText⟩
  have F_xBadText := fun_mk (st := s_BadText___init__) l_xBadText c_xBadText k_xBadText
  have D_BadText : DfX K mg ZBadText "BadText" "row" "BadText.__init__" s_BadText___init__ := ⟨PySem.W.mg_of X G aBadText, ⟨⟨_, _, _, _, _, _, _, _, _, _, _, _, _, _, _, xlBadText, (by show PySem.HandSPX.refsVE [.type "ValueError", .type "Exception", .type "BaseException", .type "object"] = true; decide +kernel)⟩, saBadText, bsBadText, tcBadText, kcBadText⟩, is_BadText, nfBadText, ⟨_, _, F_xBadText, a_xBadText, i_xBadText, (F_xBadText.binds fun _ _ _ _ _ _ us hl => match us, hl with | [_, _], _ => rfl)⟩⟩
  have DB : DfB K mg ZKeepError "KeepError" := ⟨PySem.W.mg_of X G aKeepError, _, ⟨rdK, gaK⟩, fcK⟩
  let Z : XA := ⟨ZKeepError, ZBadPlan, ZBadRing, ZBadService, ZBadBeats, ZBadLog, ZBadText⟩
  have TZ : ZOk K mg Z := ⟨PySem.W.mg_of X G aKeepError, PySem.W.mg_of X G aBadPlan, PySem.W.mg_of X G aBadRing, PySem.W.mg_of X G aBadService, PySem.W.mg_of X G aBadBeats, PySem.W.mg_of X G aBadLog, PySem.W.mg_of X G aBadText, fun x => match x with | .plan _ => is_BadPlan | .ring _ => is_BadRing | .service => is_BadService | .beats => is_BadBeats | .log _ => is_BadLog | .text _ => is_BadText, fun x => match x with | .plan _ => exm_mk bsKeepError icKeepError tcKeepError skBadPlan | .ring _ => exm_mk bsKeepError icKeepError tcKeepError skBadRing | .service => exm_mk bsKeepError icKeepError tcKeepError skBadService | .beats => exm_mk bsKeepError icKeepError tcKeepError skBadBeats | .log _ => exm_mk bsKeepError icKeepError tcKeepError skBadLog | .text _ => exm_mk bsKeepError icKeepError tcKeepError skBadText, fun x => match x with | .plan _ => kit_ve svBadPlan | .ring _ => kit_ve svBadRing | .service => kit_ve svBadService | .beats => kit_ve svBadBeats | .log _ => kit_ve svBadLog | .text _ => kit_ve svBadText, fun x => match x with | .plan _ => kit_sub icBadPlan tcBadPlan sBadPlan_BadPlan sBadPlan_BadPlan | .ring _ => kit_sub icBadPlan tcBadPlan sBadRing_BadPlan sBadRing_BadRing | .service => kit_sub icBadPlan tcBadPlan sBadService_BadPlan sBadService_BadService | .beats => kit_sub icBadPlan tcBadPlan sBadBeats_BadPlan sBadBeats_BadBeats | .log _ => kit_sub icBadPlan tcBadPlan sBadLog_BadPlan sBadLog_BadLog | .text _ => kit_sub icBadPlan tcBadPlan sBadText_BadPlan sBadText_BadText, fun x => match x with | .plan _ => kit_sub icBadRing tcBadRing sBadPlan_BadRing sBadPlan_BadPlan | .ring _ => kit_sub icBadRing tcBadRing sBadRing_BadRing sBadRing_BadRing | .service => kit_sub icBadRing tcBadRing sBadService_BadRing sBadService_BadService | .beats => kit_sub icBadRing tcBadRing sBadBeats_BadRing sBadBeats_BadBeats | .log _ => kit_sub icBadRing tcBadRing sBadLog_BadRing sBadLog_BadLog | .text _ => kit_sub icBadRing tcBadRing sBadText_BadRing sBadText_BadText, fun x => match x with | .plan _ => kit_sub icBadService tcBadService sBadPlan_BadService sBadPlan_BadPlan | .ring _ => kit_sub icBadService tcBadService sBadRing_BadService sBadRing_BadRing | .service => kit_sub icBadService tcBadService sBadService_BadService sBadService_BadService | .beats => kit_sub icBadService tcBadService sBadBeats_BadService sBadBeats_BadBeats | .log _ => kit_sub icBadService tcBadService sBadLog_BadService sBadLog_BadLog | .text _ => kit_sub icBadService tcBadService sBadText_BadService sBadText_BadText, fun x => match x with | .plan _ => kit_sub icBadBeats tcBadBeats sBadPlan_BadBeats sBadPlan_BadPlan | .ring _ => kit_sub icBadBeats tcBadBeats sBadRing_BadBeats sBadRing_BadRing | .service => kit_sub icBadBeats tcBadBeats sBadService_BadBeats sBadService_BadService | .beats => kit_sub icBadBeats tcBadBeats sBadBeats_BadBeats sBadBeats_BadBeats | .log _ => kit_sub icBadBeats tcBadBeats sBadLog_BadBeats sBadLog_BadLog | .text _ => kit_sub icBadBeats tcBadBeats sBadText_BadBeats sBadText_BadText, fun x => match x with | .plan _ => kit_sub icBadLog tcBadLog sBadPlan_BadLog sBadPlan_BadPlan | .ring _ => kit_sub icBadLog tcBadLog sBadRing_BadLog sBadRing_BadRing | .service => kit_sub icBadLog tcBadLog sBadService_BadLog sBadService_BadService | .beats => kit_sub icBadLog tcBadLog sBadBeats_BadLog sBadBeats_BadBeats | .log _ => kit_sub icBadLog tcBadLog sBadLog_BadLog sBadLog_BadLog | .text _ => kit_sub icBadLog tcBadLog sBadText_BadLog sBadText_BadText, fun x => match x with | .plan _ => kit_sub icBadText tcBadText sBadPlan_BadText sBadPlan_BadPlan | .ring _ => kit_sub icBadText tcBadText sBadRing_BadText sBadRing_BadRing | .service => kit_sub icBadText tcBadText sBadService_BadText sBadService_BadService | .beats => kit_sub icBadText tcBadText sBadBeats_BadText sBadBeats_BadBeats | .log _ => kit_sub icBadText tcBadText sBadLog_BadText sBadLog_BadLog | .text _ => kit_sub icBadText tcBadText sBadText_BadText sBadText_BadText, nfBadPlan, nfBadRing, nfBadLog, nfBadText⟩
  have C_MOST_SERVICES := cst_int (K := K) (PySem.W.mg_of X G qMOST_SERVICES)
  subst wBOUNDS_0
  have dBOUNDS_0 := tup_K (K := K) yBOUNDS_0 (Nat.le_of_ble_eq_true rfl) (xs := [.int 1, .int 20]) (.cons ⟨_, rfl⟩ (.cons ⟨_, rfl⟩ (.nil))) (fun B => .cons (.int 1) (.cons (.int 20) (.nil)))
  subst wBOUNDS_1
  have dBOUNDS_1 := tup_K (K := K) yBOUNDS_1 (Nat.le_of_ble_eq_true rfl) (xs := [.int 1, .int 20]) (.cons ⟨_, rfl⟩ (.cons ⟨_, rfl⟩ (.nil))) (fun B => .cons (.int 1) (.cons (.int 20) (.nil)))
  subst wBOUNDS_2
  have dBOUNDS_2 := tup_K (K := K) yBOUNDS_2 (Nat.le_of_ble_eq_true rfl) (xs := [.int 1, .int 20]) (.cons ⟨_, rfl⟩ (.cons ⟨_, rfl⟩ (.nil))) (fun B => .cons (.int 1) (.cons (.int 20) (.nil)))
  subst wBOUNDS_3
  have dBOUNDS_3 := tup_K (K := K) yBOUNDS_3 (Nat.le_of_ble_eq_true rfl) (xs := [.int 1, .int 50]) (.cons ⟨_, rfl⟩ (.cons ⟨_, rfl⟩ (.nil))) (fun B => .cons (.int 1) (.cons (.int 50) (.nil)))
  subst wBOUNDS_4
  have dBOUNDS_4 := tup_K (K := K) yBOUNDS_4 (Nat.le_of_ble_eq_true rfl) (xs := [.int 1, .int 9]) (.cons ⟨_, rfl⟩ (.cons ⟨_, rfl⟩ (.nil))) (fun B => .cons (.int 1) (.cons (.int 9) (.nil)))
  subst wBOUNDS
  have dBOUNDS := tup_K (K := K) yBOUNDS (Nat.le_of_ble_eq_true rfl) (xs := [.ref bBOUNDS_0, .ref bBOUNDS_1, .ref bBOUNDS_2, .ref bBOUNDS_3, .ref bBOUNDS_4]) (.cons rfl (.cons rfl (.cons rfl (.cons rfl (.cons rfl (.nil)))))) (fun B => .cons (dBOUNDS_0 B) (.cons (dBOUNDS_1 B) (.cons (dBOUNDS_2 B) (.cons (dBOUNDS_3 B) (.cons (dBOUNDS_4 B) (.nil))))))
  have C_BOUNDS := cst_tup (K := K) (PySem.W.mg_of X G qBOUNDS) dBOUNDS
  have C_FIGURES := cst_str (K := K) (PySem.W.mg_of X G qFIGURES)
  have R_FIGURES : ∃ u, mg "FIGURES" = some u ∧ L2.RelV (.str "0123456789") u := ⟨_, PySem.W.mg_of X G qFIGURES, _, rfl⟩
  have C_NONE := cst_str (K := K) (PySem.W.mg_of X G qNONE)
  have R_NONE : ∃ u, mg "NONE" = some u ∧ L2.RelV (.str "-") u := ⟨_, PySem.W.mg_of X G qNONE, _, rfl⟩
  have bVE := PySem.W.mg_none_of X G zValueError
  have B : Bn mg := ⟨PySem.W.mg_none_of X G zlen, PySem.W.mg_none_of X G zrange, PySem.W.mg_none_of X G zsorted, PySem.W.mg_none_of X G zset, PySem.W.mg_none_of X G zisinstance, PySem.W.mg_none_of X G zenumerate, PySem.W.mg_none_of X G zlist, PySem.W.mg_none_of X G ztuple, PySem.W.mg_none_of X G zabs, PySem.W.mg_none_of X G zmin, PySem.W.mg_none_of X G zmax, PySem.W.mg_none_of X G zint, PySem.W.mg_none_of X G zstr, PySem.W.mg_none_of X G zbool, PySem.W.mg_none_of X G zdict, PySem.W.mg_none_of X G zall, PySem.W.mg_none_of X G zsum⟩
  refine lawAt X own l21 rfl rfl lL w11 w18 w7 w9 w10 wnP (fun s v => .of_eq rfl) fun base _ _ TB => ?_
  have xPlan := ok_x_BadPlan (P := l.prog) (w := w) (base := base) D_BadPlan DB
  have xRing := ok_x_BadRing (P := l.prog) (w := w) (base := base) D_BadRing DB
  have xText := ok_x_BadText (P := l.prog) (w := w) (base := base) D_BadText DB
  have h_between := ok_is_between (P := l.prog) (w := w) (base := base) D_is_between B
  have h_service := ok_is_serviceX D_is_service B h_between C_BOUNDS
  have h_ring := ok_ring_fromS (P := l.prog) (w := w) (base := base) D_ring_from B
  have h_first := ok_first_ringS D_first_ring B h_ring
  have h_services := ok_need_servicesX (Z := Z) D_need_services B C_MOST_SERVICES xPlan h_service
  have h_need := ok_need_planX (Z := Z) D_need_plan B xRing h_services h_first
  have h_written := ok_writtenX (Z := Z) D_written B C_NONE h_need
  have h_number := ok_number_ofX (P := l.prog) (w := w) (base := base) D_number_of B C_FIGURES
  have h_numbers := ok_numbers_ofX D_numbers_of B h_number
  have h_row := ok_row_ofX D_row_of B C_NONE h_numbers
  have h_read := ok_readX (Z := Z) D_read B xText h_row h_need
  have h_dice := ok__law_dice (P := l.prog) (w := w) (base := base) D__law_dice B
  have h_off := ok__law_off (P := l.prog) (w := w) (base := base) D__law_off B
  have h_mixed := ok__law_mixed D__law_mixed B h_off
  have h_times := ok__law_times D__law_times B h_off
  have h_plan := ok__law_plan D__law_plan B h_off h_mixed h_times
  have h_lnum := ok__law_number (P := l.prog) (w := w) (base := base) D__law_number B
  have h_lrow := ok__law_row D__law_row B h_lnum
  have h_changed := ok__law_changed D__law_changed B h_off
  exact ok_law ⟨⟨_, _, _, _, _, _, _, _, rfl, l21, c21⟩⟩ B TB bVE TZ D__law_word h_dice h_off h_plan (ok__law_alike D__law_alike B 4) h_changed h_lrow h_written h_read
theorem walk {l : PySem.W.OpenLaw} {q : Program} {loose : List Str} {XP : (Str → Option Value) → Heap → Prop} {YP : World → Heap → Prop} {d : DefRec} {K : Params → PySem.W.Frag} (hn : l.most = some 63) (hdf : d.params.defaults = []) (hrec : ((recsOf q).any fun e => e.name == d.name) = true)
    (hY : ∀ (w : World) (h : Heap), YP w h → (K w.params).In h)
    (F : ∀ (w : World) (mg : Str → Option Value) (fa : Addr) (h : Heap), (K w.params).In h → h.Ns mainGlobals mg → mg d.name = some (.ref fa) → LamX.OwnTab (K w.params) fa h → LamX.LawAtS l w (K w.params) CX0 8 63 "_law_script" mg fa h) :
    PySem.W.WalkO q loose XP YP l.row.toRowW d [] (fun f vs => PySem.call f vs) :=
  LamX.walk_ofOwn (n := 63) (k := 8) (x := "_law_script") (CX := fun _ => CX0) hn (by decide) hdf ⟨rfl, by decide, by decide⟩ hrec hY (fun w mg fa h _ => F w mg fa h) fun _ _ _ _ _ z => z
end Kr
open PySem PySem.W PyProof.Rows in
set_option maxRecDepth 100000 in
set_option maxHeartbeats 0 in
set_option pp.maxSteps 60 in
set_option pp.deepTerms.threshold 2 in
theorem PySem.Challenge.cw_keeprunning_k15_texts_refused_holds : PySem.Challenge.rw_keeprunning_k15_texts_refused.Holds := by
  w_on; o_law; k_head; (case hw => w_witness2)
  k_fill
  refine Kr.walk (l := PySem.Challenge.rw_keeprunning_k15_texts_refused) rfl rfl rfl (fun w h Y => PySem.W.km_in_of Y) ?F
  case F =>
    intro w mg fa h KX G hmg hown
    refine' Kr.all_mk KX G hmg hown ?a0 ?l0 ?c0 ?k0 ?a1 ?l1 ?c1 ?k1 ?a2 ?l2 ?c2 ?k2 ?a3 ?l3 ?c3 ?k3 ?a4 ?l4 ?c4 ?k4 ?a5 ?l5 ?c5 ?k5 ?a6 ?l6 ?c6 ?k6 ?a7 ?l7 ?c7 ?k7 ?a8 ?l8 ?c8 ?k8 ?a9 ?l9 ?c9 ?k9 ?a10 ?l10 ?c10 ?k10 ?a11 ?l11 ?c11 ?k11 ?a12 ?l12 ?c12 ?k12 ?a13 ?l13 ?c13 ?k13 ?a14 ?l14 ?c14 ?k14 ?a15 ?l15 ?c15 ?k15 ?a16 ?l16 ?c16 ?k16 ?a17 ?l17 ?c17 ?k17 ?a18 ?l18 ?c18 ?k18 ?a19 ?l19 ?c19 ?k19 ?a20 ?l20 ?c20 ?k20 ?a21 ?l21 ?c21 ?k21 ?aKeepError ?icKeepError ?tcKeepError ?bsKeepError ?aBadPlan ?icBadPlan ?tcBadPlan ?bsBadPlan ?aBadRing ?icBadRing ?tcBadRing ?bsBadRing ?aBadService ?icBadService ?tcBadService ?bsBadService ?aBadBeats ?icBadBeats ?tcBadBeats ?bsBadBeats ?aBadLog ?icBadLog ?tcBadLog ?bsBadLog ?aBadText ?icBadText ?tcBadText ?bsBadText ?exn ?ext ?hgBadPlan ?hkBadPlan ?hdBadPlan ?haBadPlan ?hmBadPlan ?skBadPlan ?svBadPlan ?sBadPlan_BadPlan ?sBadPlan_BadRing ?sBadPlan_BadService ?sBadPlan_BadBeats ?sBadPlan_BadLog ?sBadPlan_BadText ?nfBadPlan ?kcBadPlan ?saBadPlan ?xlBadPlan ?a_xBadPlan ?i_xBadPlan ?l_xBadPlan ?c_xBadPlan ?k_xBadPlan ?hgBadRing ?hkBadRing ?hdBadRing ?haBadRing ?hmBadRing ?skBadRing ?svBadRing ?sBadRing_BadPlan ?sBadRing_BadRing ?sBadRing_BadService ?sBadRing_BadBeats ?sBadRing_BadLog ?sBadRing_BadText ?nfBadRing ?kcBadRing ?saBadRing ?xlBadRing ?a_xBadRing ?i_xBadRing ?l_xBadRing ?c_xBadRing ?k_xBadRing ?hgBadService ?hkBadService ?hdBadService ?haBadService ?hmBadService ?skBadService ?svBadService ?sBadService_BadPlan ?sBadService_BadRing ?sBadService_BadService ?sBadService_BadBeats ?sBadService_BadLog ?sBadService_BadText ?hgBadBeats ?hkBadBeats ?hdBadBeats ?haBadBeats ?hmBadBeats ?skBadBeats ?svBadBeats ?sBadBeats_BadPlan ?sBadBeats_BadRing ?sBadBeats_BadService ?sBadBeats_BadBeats ?sBadBeats_BadLog ?sBadBeats_BadText ?hgBadLog ?hkBadLog ?hdBadLog ?haBadLog ?hmBadLog ?skBadLog ?svBadLog ?sBadLog_BadPlan ?sBadLog_BadRing ?sBadLog_BadService ?sBadLog_BadBeats ?sBadLog_BadLog ?sBadLog_BadText ?nfBadLog ?hgBadText ?hkBadText ?hdBadText ?haBadText ?hmBadText ?skBadText ?svBadText ?sBadText_BadPlan ?sBadText_BadRing ?sBadText_BadService ?sBadText_BadBeats ?sBadText_BadLog ?sBadText_BadText ?nfBadText ?kcBadText ?saBadText ?xlBadText ?a_xBadText ?i_xBadText ?l_xBadText ?c_xBadText ?k_xBadText ?rdK ?gaK ?fcK ?qMOST_SERVICES ?qBOUNDS ?yBOUNDS_0 ?wBOUNDS_0 ?yBOUNDS_1 ?wBOUNDS_1 ?yBOUNDS_2 ?wBOUNDS_2 ?yBOUNDS_3 ?wBOUNDS_3 ?yBOUNDS_4 ?wBOUNDS_4 ?yBOUNDS ?wBOUNDS ?qFIGURES ?qNONE ?zlen ?zrange ?zsorted ?zset ?zisinstance ?zenumerate ?zlist ?ztuple ?zabs ?zmin ?zmax ?zint ?zstr ?zbool ?zdict ?zall ?zsum ?zValueError ?wL ?lL ?w11 ?w18 ?w7 ?w9 ?w10 ?wnP
    (case a0 => k_is)
    (case l0 => k_is)
    (case c0 => k_is)
    (case k0 => k_is)
    (case a1 => k_is)
    (case l1 => k_is)
    (case c1 => k_is)
    (case k1 => k_is)
    (case a2 => k_is)
    (case l2 => k_is)
    (case c2 => k_is)
    (case k2 => k_is)
    (case a3 => k_is)
    (case l3 => k_is)
    (case c3 => k_is)
    (case k3 => k_is)
    (case a4 => k_is)
    (case l4 => k_is)
    (case c4 => k_is)
    (case k4 => k_is)
    (case a5 => k_is)
    (case l5 => k_is)
    (case c5 => k_is)
    (case k5 => k_is)
    (case a6 => k_is)
    (case l6 => k_is)
    (case c6 => k_is)
    (case k6 => k_is)
    (case a7 => k_is)
    (case l7 => k_is)
    (case c7 => k_is)
    (case k7 => k_is)
    (case a8 => k_is)
    (case l8 => k_is)
    (case c8 => k_is)
    (case k8 => k_is)
    (case a9 => k_is)
    (case l9 => k_is)
    (case c9 => k_is)
    (case k9 => k_is)
    (case a10 => k_is)
    (case l10 => k_is)
    (case c10 => k_is)
    (case k10 => k_is)
    (case a11 => k_is)
    (case l11 => k_is)
    (case c11 => k_is)
    (case k11 => k_is)
    (case a12 => k_is)
    (case l12 => k_is)
    (case c12 => k_is)
    (case k12 => k_is)
    (case a13 => k_is)
    (case l13 => k_is)
    (case c13 => k_is)
    (case k13 => k_is)
    (case a14 => k_is)
    (case l14 => k_is)
    (case c14 => k_is)
    (case k14 => k_is)
    (case a15 => k_is)
    (case l15 => k_is)
    (case c15 => k_is)
    (case k15 => k_is)
    (case a16 => k_is)
    (case l16 => k_is)
    (case c16 => k_is)
    (case k16 => k_is)
    (case a17 => k_is)
    (case l17 => k_is)
    (case c17 => k_is)
    (case k17 => k_is)
    (case a18 => k_is)
    (case l18 => k_is)
    (case c18 => k_is)
    (case k18 => k_is)
    (case a19 => k_is)
    (case l19 => k_is)
    (case c19 => k_is)
    (case k19 => k_is)
    (case a20 => k_is)
    (case l20 => k_is)
    (case c20 => k_is)
    (case k20 => k_is)
    (case a21 => k_is)
    (case l21 => k_is)
    (case c21 => k_is)
    (case k21 => k_is)
    (case aKeepError => k_is)
    (case icKeepError => k_is)
    (case tcKeepError => k_is)
    (case bsKeepError => k_is)
    (case aBadPlan => k_is)
    (case icBadPlan => k_is)
    (case tcBadPlan => k_is)
    (case bsBadPlan => k_is)
    (case aBadRing => k_is)
    (case icBadRing => k_is)
    (case tcBadRing => k_is)
    (case bsBadRing => k_is)
    (case aBadService => k_is)
    (case icBadService => k_is)
    (case tcBadService => k_is)
    (case bsBadService => k_is)
    (case aBadBeats => k_is)
    (case icBadBeats => k_is)
    (case tcBadBeats => k_is)
    (case bsBadBeats => k_is)
    (case aBadLog => k_is)
    (case icBadLog => k_is)
    (case tcBadLog => k_is)
    (case bsBadLog => k_is)
    (case aBadText => k_is)
    (case icBadText => k_is)
    (case tcBadText => k_is)
    (case bsBadText => k_is)
    (case exn => k_is)
    (case ext => k_is)
    (case hgBadPlan => k_is)
    (case hkBadPlan => k_is)
    (case hdBadPlan => k_is)
    (case haBadPlan => k_is)
    (case hmBadPlan => k_is)
    (case skBadPlan => k_is)
    (case svBadPlan => k_is)
    (case sBadPlan_BadPlan => k_is)
    (case sBadPlan_BadRing => k_is)
    (case sBadPlan_BadService => k_is)
    (case sBadPlan_BadBeats => k_is)
    (case sBadPlan_BadLog => k_is)
    (case sBadPlan_BadText => k_is)
    (case nfBadPlan => k_is)
    (case kcBadPlan => k_is)
    (case saBadPlan => k_is)
    (case xlBadPlan => k_is)
    (case a_xBadPlan => k_is)
    (case i_xBadPlan => k_is)
    (case l_xBadPlan => k_is)
    (case c_xBadPlan => k_is)
    (case k_xBadPlan => k_is)
    (case hgBadRing => k_is)
    (case hkBadRing => k_is)
    (case hdBadRing => k_is)
    (case haBadRing => k_is)
    (case hmBadRing => k_is)
    (case skBadRing => k_is)
    (case svBadRing => k_is)
    (case sBadRing_BadPlan => k_is)
    (case sBadRing_BadRing => k_is)
    (case sBadRing_BadService => k_is)
    (case sBadRing_BadBeats => k_is)
    (case sBadRing_BadLog => k_is)
    (case sBadRing_BadText => k_is)
    (case nfBadRing => k_is)
    (case kcBadRing => k_is)
    (case saBadRing => k_is)
    (case xlBadRing => k_is)
    (case a_xBadRing => k_is)
    (case i_xBadRing => k_is)
    (case l_xBadRing => k_is)
    (case c_xBadRing => k_is)
    (case k_xBadRing => k_is)
    (case hgBadService => k_is)
    (case hkBadService => k_is)
    (case hdBadService => k_is)
    (case haBadService => k_is)
    (case hmBadService => k_is)
    (case skBadService => k_is)
    (case svBadService => k_is)
    (case sBadService_BadPlan => k_is)
    (case sBadService_BadRing => k_is)
    (case sBadService_BadService => k_is)
    (case sBadService_BadBeats => k_is)
    (case sBadService_BadLog => k_is)
    (case sBadService_BadText => k_is)
    (case hgBadBeats => k_is)
    (case hkBadBeats => k_is)
    (case hdBadBeats => k_is)
    (case haBadBeats => k_is)
    (case hmBadBeats => k_is)
    (case skBadBeats => k_is)
    (case svBadBeats => k_is)
    (case sBadBeats_BadPlan => k_is)
    (case sBadBeats_BadRing => k_is)
    (case sBadBeats_BadService => k_is)
    (case sBadBeats_BadBeats => k_is)
    (case sBadBeats_BadLog => k_is)
    (case sBadBeats_BadText => k_is)
    (case hgBadLog => k_is)
    (case hkBadLog => k_is)
    (case hdBadLog => k_is)
    (case haBadLog => k_is)
    (case hmBadLog => k_is)
    (case skBadLog => k_is)
    (case svBadLog => k_is)
    (case sBadLog_BadPlan => k_is)
    (case sBadLog_BadRing => k_is)
    (case sBadLog_BadService => k_is)
    (case sBadLog_BadBeats => k_is)
    (case sBadLog_BadLog => k_is)
    (case sBadLog_BadText => k_is)
    (case nfBadLog => k_is)
    (case hgBadText => k_is)
    (case hkBadText => k_is)
    (case hdBadText => k_is)
    (case haBadText => k_is)
    (case hmBadText => k_is)
    (case skBadText => k_is)
    (case svBadText => k_is)
    (case sBadText_BadPlan => k_is)
    (case sBadText_BadRing => k_is)
    (case sBadText_BadService => k_is)
    (case sBadText_BadBeats => k_is)
    (case sBadText_BadLog => k_is)
    (case sBadText_BadText => k_is)
    (case nfBadText => k_is)
    (case kcBadText => k_is)
    (case saBadText => k_is)
    (case xlBadText => k_is)
    (case a_xBadText => k_is)
    (case i_xBadText => k_is)
    (case l_xBadText => k_is)
    (case c_xBadText => k_is)
    (case k_xBadText => k_is)
    (case rdK => k_is)
    (case gaK => k_is)
    (case fcK => k_is)
    (case qMOST_SERVICES => k_is)
    (case qBOUNDS => k_is)
    (case yBOUNDS => k_is)
    (case wBOUNDS => rfl)
    (case yBOUNDS_0 => k_is)
    (case wBOUNDS_0 => rfl)
    (case yBOUNDS_1 => k_is)
    (case wBOUNDS_1 => rfl)
    (case yBOUNDS_2 => k_is)
    (case wBOUNDS_2 => rfl)
    (case yBOUNDS_3 => k_is)
    (case wBOUNDS_3 => rfl)
    (case yBOUNDS_4 => k_is)
    (case wBOUNDS_4 => rfl)
    (case qFIGURES => k_is)
    (case qNONE => k_is)
    (case zlen => k_is)
    (case zrange => k_is)
    (case zsorted => k_is)
    (case zset => k_is)
    (case zisinstance => k_is)
    (case zenumerate => k_is)
    (case zlist => k_is)
    (case ztuple => k_is)
    (case zabs => k_is)
    (case zmin => k_is)
    (case zmax => k_is)
    (case zint => k_is)
    (case zstr => k_is)
    (case zbool => k_is)
    (case zdict => k_is)
    (case zall => k_is)
    (case zsum => k_is)
    (case zValueError => k_is)
    (case wL => rfl)
    (case lL => k_is)
    (case w11 => rfl)
    (case w18 => rfl)
    (case w7 => rfl)
    (case w9 => rfl)
    (case w10 => rfl)
    (case wnP => rfl)
