import PyProof.Rows.All
import Wide.All
import OpenK.AllK
import Wide.FinOn
import HandS.ForMost
import HandS.Codes
import HandS.Evl
import HandS.IsInst
import HandS.SortInts
import HandS.TupAny
import HandS.TupMul
import HandS.Conv
import HandS.SetFor
import HandS.Style
import HandS.Strs
import HandS.Dict
import KE.GoesMore
import KE.GoesEnum
import KE.DataFind
import HandS.Sort
import KE.KDictPairs
import HandS.Deep
import KE.DataMinMax
import HandS.SortOrd
import KE.KSortTupG
import PySem.Challenge.RW_keeprunning_k08_most_begins
set_option Elab.async false
set_option linter.all false
set_option maxRecDepth 100000
set_option maxHeartbeats 2000000
/-! Rk: rules that the hand layer lacks: extend by any row, enumerate of a tuple, sets of ints. -/
namespace Rk
open PySem PySem.Spec PyProof.Rows L2
/-! ### extend by a list or a tuple -/
theorem ext_meets {l b : Addr} {mine its2 : Array Value} {n : Nat} {T : String} (hT : T = "list" ∨ T = "tuple") (hz : mine.size + its2.size ≤ sizeLine) :
    Meets (Builtin.«list.extend» ⟨[.ref l, .ref b], []⟩) fun _ R s => s.heap.get? l = some { cls := .type "list", data := .seq mine n } ∧ (∃ o n2, s.heap.get? b = some o ∧ o.cls = .type T ∧ o.data = .seq its2 n2) ∧
      R (.ok (.ret .none)) { s with heap := s.heap.update l (Obj.mapSeq fun x => x ++ its2) } := fun prog w A R s h => by
  obtain ⟨hl, ⟨o, n2, ho, hc, hd⟩, h⟩ := h
  show wpAny _ A.in1 (Builtin.List.listExtendWith (.ref l) (.ref b) .none) _ _ s
  unfold Builtin.List.listExtendWith
  refine wpAny_bind (wpAny_typeOf ⟨o, ho, hc⟩ ?_)
  have seqT : (Builtin.List.listSameRef (.ref l) (.ref b) || Value.type T == Value.type "list" || Value.type T == Value.type "tuple") = true := by
    rcases hT with rfl | rfl
    · simp
    · simp
  simp only [seqT, if_true]
  refine wpAny_bind ?_
  unfold Builtin.List.listItems
  refine wpAny_bind (wpAny_seqItems ho hd (wpAny_pure ?_))
  refine wpAny_bind ?_
  refine wpAny_bind (wpAny_seqItems hl rfl (wpAny_pure ?_))
  have notLong : (!mine.isEmpty && Builtin.List.listTooLong (mine.size + its2.size)) = false := by
    rw [notLongL hz, Bool.and_false]
  simp only [notLong, Bool.false_eq_true, if_false]
  first
  | (refine wpAny_bind (wpAny_pure ?_)
     show wpAny _ A.in1 (updateSeq l (· ++ its2) >>= fun _ => ret Value.none) _ _ s
     exact wpAny_bind (wpAny_updateSeq hl rfl (wpAny_pure h)))
  | (show wpAny _ A.in1 (updateSeq l (· ++ its2) >>= fun _ => ret Value.none) _ _ s
     exact wpAny_bind (wpAny_updateSeq hl rfl (wpAny_pure h) (by omega) (by rw [Array.size_append]; omega)))
def rExtendA (K : PySem.W.Frag) : V → List V → Hp → VK → Prop := fun x vs H Q => ∃ l b xs zs, x = .ref l ∧ vs = [.ref b] ∧ H l = some (.lst xs) ∧ (SqL K H b zs ∨ SqT K H b zs) ∧ xs.length + zs.length ≤ sizeLine ∧ Q .non (upd H l (.lst (xs ++ zs)))
theorem mt_extendA {X : Cx} : MtM X "list.extend" (rExtendA X.K) := by
  intro pins s σ H x vs v us Q I rx rv h
  obtain ⟨l, b, xs, zs, rfl, rfl, hH, hB, hz, q⟩ := h
  cases rx
  obtain ⟨u, rfl, ru⟩ := rv.one
  cases ru
  obtain ⟨z, its, n, r, hl, e⟩ := I.lstM hH
  obtain ⟨T, hT, its2, o, n2, r2, ho, hc, hd⟩ : ∃ T, (T = "list" ∨ T = "tuple") ∧ ∃ (its2 : List Value) (o : Obj) (n2 : Nat), Vals zs its2 ∧ s.heap.get? b = some o ∧ o.cls = .type T ∧ o.data = .seq its2.toArray n2 := by
    rcases hB with hB | hB
    · obtain ⟨its2, r2, ⟨o, n2, ho, hc, _, hd⟩, _⟩ := I.list hB
      exact ⟨"list", .inl rfl, its2, o, n2, r2, ho, hc, hd⟩
    · obtain ⟨its2, r2, ⟨o, ho, hc, n2, hd⟩, _⟩ := I.tuple hB
      exact ⟨"tuple", .inr rfl, its2, o, n2, r2, ho, hc, hd⟩
  have l2 := r2.length
  have hsz : its.toArray.size + its2.toArray.size ≤ sizeLine := by rw [List.size_toArray, List.size_toArray]; omega
  refine call_meets F.slot_list_extend ⟨_, e, rfl⟩ F.entry_list_extend (F.args_list_extend_2 _ _) (ext_meets hT hsz) ⟨e, ⟨o, n2, ho, hc, hd⟩, ?_⟩
  refine ⟨.non, _, I.lset (its' := its ++ its2) hH e (by simp) (r.append r2) (by rw [List.length_append]; omega), rfl, q⟩

/-! ### enumerate of a tuple -/
set_option maxHeartbeats 4000000 in
theorem enumNew_meets {v : Value} {o : Obj} {Hh : Heap → Prop} (B : Begins v o Hh) :
    Meets (Builtin.«enumerate.__new__» ⟨[.type "enumerate", v], []⟩) fun _ R s => Hh s.heap ∧
      R (.ok (.ret (.ref (s.heap.push o).objs.size))) { s with heap := (s.heap.push o).push { cls := .type "enumerate", data := .fields #[.none, .bool false, .ref s.heap.objs.size, rawInt 0, .none, .none] } } :=
  .of_wp fun prog w A R s h => by
    obtain ⟨hp, gs, dr, tk, os⟩ := s
    obtain ⟨h1, h⟩ := h
    have hsub := sub_enumerate
    have itr : ∀ {A' : Around} {E : Value → Shared → Prop} {Q : Value → Shared → Prop}, Q (.ref hp.objs.size) ⟨hp.push o, gs, dr, tk, os⟩ → wpAny (model prog w) A' (pyIter v) Q E ⟨hp, gs, dr, tk, os⟩ := fun q => B.iter prog w _ _ ⟨hp, gs, dr, tk, os⟩ _ h1 q
    wp_walk using itr
    refine wpAny_stack_any fun st => wpAny_pure ?_
    split
    · rename_i c _ _ _ _ _
      cases (c == Value.type "enumerate") <;> (wp_walk using itr; exact ⟨_, rfl, h⟩)
    · wp_walk using itr
      exact ⟨_, rfl, h⟩
section
variable {prog : Program} {w : World} {A : Around} {E : Value → Shared → Prop} {s : Shared}
theorem call_enumB {v : Value} {o : Obj} {Hh : Heap → Prop} {Q : Value → Shared → Prop} (B : Begins v o Hh) (h1 : Hh s.heap)
    (h : ∀ h', IsEnum h' (s.heap.objs.size + 1) s.heap.objs.size 0 .none → h'.get? s.heap.objs.size = some o → (∀ b u, s.heap.get? b = some u → h'.get? b = some u) → Q (.ref (s.heap.objs.size + 1)) { s with heap := h' }) :
    wpAny (model prog w) A (call (.type "enumerate") [v]) Q E s := by
  have hz : (s.heap.push o).objs.size = s.heap.objs.size + 1 := Heap.size_push ..
  refine callType_new F.called_enumerate (by decide) (F.typeCall_enumerate_1 _) (F.newCall_enumerate_1 _) (fun obj => F.args_object_init_2 obj _) F.entry_enumerate_new (enumNew_meets B) ⟨h1, ?_⟩
  show _ ∧ _
  rw [hz]
  have made : IsEnum ((s.heap.push o).push { cls := .type "enumerate", data := .fields #[.none, .bool false, .ref s.heap.objs.size, rawInt 0, .none, .none] }) (s.heap.objs.size + 1) s.heap.objs.size 0 .none := by
    have q := Heap.get?_push_size (s.heap.push o) (o := { cls := .type "enumerate", data := .fields #[.none, .bool false, .ref s.heap.objs.size, rawInt 0, .none, .none] }) rfl
    rw [hz] at q
    exact q
  exact ⟨⟨_, made, rfl⟩, h _ made (Heap.get?_push_of_some _ (Heap.get?_push_size _ B.free)) fun b u x => Heap.get?_push_of_some _ (Heap.get?_push_of_some _ x)⟩
end
/-- the tuple at a, its items in new pairs with their places -/
def IteT (K : PySem.W.Frag) (a : Addr) : It :=
  ⟨fun i H => ∃ (xs : List V) (x : V), SqT K H a xs ∧ xs[i]? = some x, fun i H v H' => ∃ T x, v = .ref T ∧ H T = none ∧ H' = upd H T (.tup [.int (i : Nat), x]) ∧ ∀ xs, SqT K H a xs → xs[i]? = some x, fun i H => ∃ xs : List V, SqT K H a xs ∧ xs.length ≤ i⟩
theorem turn_enumT {P : Program} {w : World} {K : PySem.W.Frag} {elts : List Expr} {kk : Nat} {tpos : Pos} (a e it : Addr) :
    Turn P w K (.Tuple elts kk tpos) (IteT K a) [e, it] e fun i h => (∃ old, IsEnum h e it ((i : Nat) : Int) old) ∧ h.IsTupleIter it a i ∧ e ≠ it ∧ a ≠ it ∧ a ≠ e where
  mem := by simp
  obj := fun i h st b hb => by
    obtain ⟨⟨old, he⟩, ⟨o, ho, hc, hd⟩, _⟩ := st
    have e' : b = e ∨ b = it := by simpa using hb
    rcases e' with z | z
    · rw [z]; exact ⟨_, he, fun v q => nomatch q⟩
    · rw [z]; exact ⟨o, ho, fun v q => by rw [hd] at q; cases q⟩
  keep := fun i h h' st k => by
    obtain ⟨⟨old, he⟩, hi, hne⟩ := st
    exact ⟨⟨old, k e (by simp) _ he⟩, hi.at fun o q => k it (by simp) o q, hne⟩
  item := by
    intro X hP hw hK hc i pins s σ H E I hf st hg
    subst hP hw hK
    obtain ⟨⟨old, he⟩, hit, hne, hai, hae⟩ := st
    obtain ⟨xs, x, hq, hx⟩ := hg
    obtain ⟨its, rv, p, hz⟩ := I.tuple hq
    obtain ⟨u, hu, ru⟩ := rv.get hx
    have hel : e < s.heap.objs.size := Heap.lt_size he
    have hil : it < s.heap.objs.size := by
      obtain ⟨_, q, _⟩ := hit
      exact Heap.lt_size q
    have ht : s.heap.IsTuple a its.toArray := p
    have hlt : i < its.toArray.size := by
      have q := (List.getElem?_eq_some_iff.mp hu).1
      rw [List.size_toArray]
      exact q
    have hh : X.A.in1.handled = none := I.ok.hd hc
    have D := Draws.tuple (prog := X.prog) (w := X.w) (A := X.A.in1) hh it a hai its.toArray
    refine wpAny_pyNext_enum_itemD D he ⟨hit, ht⟩ hlt hne (by simp only [List.mem_cons, List.not_mem_nil, or_false, not_or]; exact ⟨hne, Ne.symm hae⟩) fun x' h' tk hPx ho st' hT hsz hk => ?_
    have ex : x' = u := by
      have q : its.toArray[i]? = some x' := hPx
      rw [List.getElem?_toArray, hu] at q
      exact (Option.some.inj q).symm
    subst ex
    refine ⟨_, rfl, wpAny_letOwnedTupleGo_enum (s := { s with heap := h', toks := tk + 1 }) ho fun h'' he' sb => ?_⟩
    have hT2 : h''.get? s.heap.objs.size = some { cls := .type "tuple", data := .seq #[.int i tk, x'] } := (sb.2 _ (Nat.ne_of_gt hel)).trans hT
    have made : ObjOk X.prog X.w (upd H s.heap.objs.size (.tup [.int (i : Nat), x])) h'' s.heap.objs.size (.tup [.int (i : Nat), x]) :=
      ⟨by show 2 ≤ sizeLine; decide, [.int i tk, x'], .cons ⟨_, rfl⟩ (.cons ru .nil), ⟨_, hT2, rfl, _, rfl⟩⟩
    have I1 : Inv X pins σ (upd H s.heap.objs.size (.tup [.int (i : Nat), x])) { s with heap := h'', toks := tk + 1 } :=
      I.turnedNew (ch := [e, it]) (fun b ob hb q => (sb.2 b fun z => hb (by simp [z])).trans (hk b ob (fun z => hb (by simp [z])) (fun z => hb (by simp [z])) q)) hf (Nat.le_refl _) made
    refine ⟨.ref s.heap.objs.size, _, I1, rfl, ⟨_, x, rfl, I.hok.fresh (Nat.le_refl _), rfl, fun ys hy => by rw [I.tuple_inj hy hq]; exact hx⟩, ⟨⟨x', ?_⟩, st'.1.at fun o q => (sb.2 it (Ne.symm hne)).trans q, hne, hai, hae⟩, fun b hb => ?_⟩
    · have e1 : ((i + 1 : Nat) : Int) = (i : Int) + 1 := by omega
      rw [e1]
      exact he'
    · have e' : b = e ∨ b = it := by simpa using hb
      have hb' : b < s.heap.objs.size := by
        rcases e' with z | z
        · rw [z]; exact hel
        · rw [z]; exact hil
      rw [upd_ne (Nat.ne_of_lt hb')]
      exact (hf b hb).1
  done := by
    intro X hP hw hK hc i pins s σ H E I hf st hg
    subst hP hw hK
    obtain ⟨⟨old, he⟩, hit, hne, hai, hae⟩ := st
    obtain ⟨xs, hq, hx⟩ := hg
    obtain ⟨its, rv, p, hz⟩ := I.tuple hq
    obtain ⟨f0, f1, f2, f3, f4, f5⟩ := hf it (by simp)
    have hl := rv.length
    have ht : s.heap.IsTuple a its.toArray := p
    have hh : X.A.in1.handled = none := I.ok.hd hc
    have hT : s.TypeIs (.ref e) "enumerate" := ⟨_, he, rfl⟩
    unfold pyNext
    refine wpAny_bind (wpAny_attempt (wpAny_callSpecial?_slot (name := Str.ofString "__next__") hT F.slot_enumerate_next (wpAny_call_entry F.slot_enumerate_next hT F.entry_enumerate_next ?_ (F.args_enumerate_next_1 _))))
    show wpAny _ _ (field (.ref e) 2 >>= _) _ _ _
    refine wpAny_bind (wpAny_field he rfl (x := .ref it) rfl ?_)
    refine wpAny_bind (wpAny_nextOf_tuple_end (items := its.toArray) hh hit ht (by rw [List.getElem?_toArray]; exact List.getElem?_eq_none (by omega)) fun h' x he' hx' => ?_)
    obtain ⟨o, ho, hcl⟩ := hx'
    refine wpAny_bind (wpAny_isInstance (T := "StopIteration") (b := true) ⟨o, ho, hcl⟩ isSubtype_stop ?_)
    exact wpAny_pure ⟨rfl, I.turned (t' := s.toks) (fun b o hb q => he' b o hb q) f0 f1 f3 f4 f5⟩
  self := fun A i s Q E st h => by
    obtain ⟨⟨_, he⟩, _⟩ := st
    exact wpAny_pyIter_enum he h
def iEnumT (K : PySem.W.Frag) (ta : TA) : TI := fun σ H R => ta σ H fun vs H1 => ∃ a xs, vs = [.ref a] ∧ SqT K H1 a xs ∧ R (IteT K a) H1
theorem pi_enumT {X : Cx} {e : Expr} {ta : TA} {p pos tpos : Pos} {elts : List Expr} {kk : Nat} (hg : Gl X "enumerate") (hm : X.mg "enumerate" = none) (ha : PA X [e] ta) (hs : starEach [e] X.env = [(false, eval e X.env)] := by rfl) :
    PI X (.Tuple elts kk tpos) (.Call (.Name "enumerate" p) [e] [] pos) (iEnumT X.K ta) := by
  refine ⟨fun pins s σ H R I h => ?_⟩
  refine Call_ (ld_blt I hg hm boot_enumerate (PyProof.Rows.callWith_type1 (thn (ha.run pos pins s σ H _ I h) fun us s1 ⟨vs, H1, I1, r1, q1⟩ => ?_) hs rfl))
  obtain ⟨a, xs, ex, hq, q⟩ := q1
  subst ex
  cases r1 with
  | cons r rr =>
    cases rr
    cases r
    obtain ⟨its, rv, p', hz⟩ := I1.tuple hq
    have ht : s1.heap.IsTuple a its.toArray := p'
    have hal : a < s1.heap.objs.size := by
      obtain ⟨o, ho, _⟩ := p'
      exact Heap.lt_size ho
    refine call_enumB (begins_tuple a its.toArray) ht fun h' he hit hk => wpAny_pyIter_enum he ?_
    have I2 : Inv X pins σ H1 { s1 with heap := h' } := I1.kept (t' := s1.toks) hk
    refine ⟨s1.heap.objs.size + 1, [s1.heap.objs.size + 1, s1.heap.objs.size], _, _, H1, rfl, I2, turn_enumT a (s1.heap.objs.size + 1) s1.heap.objs.size, ⟨⟨.none, he⟩, ⟨_, hit, rfl, rfl⟩, Nat.succ_ne_self _, Nat.ne_of_lt hal, Nat.ne_of_lt (Nat.lt_succ_of_lt hal)⟩, fun b hb => ?_, q⟩
    have e' : b = s1.heap.objs.size + 1 ∨ b = s1.heap.objs.size := by simpa using hb
    have hle : s1.heap.objs.size ≤ b := by
      rcases e' with z | z
      · rw [z]; exact Nat.le_add_right _ _
      · rw [z]; exact Nat.le_refl _
    exact I1.fpOk hle (I1.hok.fresh hle)
end Rk

/-! Rk2: set(..) of a list or a tuple of ints, as a value. -/
namespace Rk
open PySem PySem.Spec PyProof.Rows L2
/-- a set that was just made -/
abbrev mtSet (w : World) : Obj := { cls := .type "set", dict := none, data := .set #[] 0 (.fresh 0 0 (!w.params.followText "set-order")) }
section
variable {P : Program} {w : World} {A : Around} {E : Value → Shared → Prop} {s : Shared}
set_option maxHeartbeats 6400000 in
theorem set_of_list {l : Addr} {items : Array Value} (ns : List Int) {Q : Value → Shared → Prop} (hh : A.handled = none) (hl : s.heap.IsList l items) (hin : IntsAre items.toList ns) (few : ns.length + 1 < scanBound)
    (h : ∀ (h' : Heap) (tk c : Nat), SetR w h' s.heap.objs.size (fun j => decide (j ∈ ns)) c → c ≤ ns.length → (∀ b o, s.heap.get? b = some o → h'.get? b = some o) → Q (.ref s.heap.objs.size) { s with heap := h', toks := tk }) :
    wpAny (model P w) A (call (.type "set") [.ref l]) Q E s := by
  have size : items.size = ns.length := by
    have q := IntsAre.length hin
    rwa [Array.length_toList] at q
  obtain ⟨c, tl, hmro⟩ := F.called_set.mro
  have facts := And.intro F.called_set.made (And.intro F.called_set.sub (And.intro F.called_set.notType F.called_set.canCreate))
  obtain ⟨hmade, hsub, h1, h2⟩ := facts
  refine wpAny_call (codeAny_of_tree ?_)
  show wpAny _ _ (callAny (.type "set") _) _ _ _
  refine wpAny_pure ⟨Code.quiet_builtin _ (by decide +kernel), codeAny_builtin F.entry_type_call ?_⟩
  rw [Around.under_plain (weight_type_call_type "set" [.ref l] []) rfl]
  have hct := F.typeCall_set_1 (.ref l)
  repeat (any_goals (first | assumption | wp_step))
  refine codeAny_mono (code_set_led1 (.ref l) (E := E) (Q₁ := fun obj t => obj = .ref s.heap.objs.size ∧ t = { s with heap := s.heap.push (mtSet w) }) ⟨rfl, rfl⟩) fun r t hr => ?_
  cases r with
  | error e => exact hr
  | ok fl =>
    cases fl with
    | ret obj =>
      obtain ⟨rfl, rfl⟩ := hr
      have made : (s.heap.push (mtSet w)).get? s.heap.objs.size = some (mtSet w) := Heap.get?_push_size _ rfl
      have isSet : Shared.TypeIs { s with heap := s.heap.push (mtSet w) } (.ref s.heap.objs.size) "set" := ⟨_, made, rfl⟩
      have hli := F.called_set.init.lookup
      have hbi := F.called_set.init.bind (.ref s.heap.objs.size)
      repeat (any_goals (first | assumption | wp_step))
      refine codeAny_mono (codeAny_call_builtin (R := wants (fun r t => r = .none ∧ ∃ h' tk c, t = { s with heap := h', toks := tk } ∧ SetR w h' s.heap.objs.size (fun j => decide (j ∈ ns)) c ∧ c ≤ ns.length ∧ ∀ b o, s.heap.get? b = some o → h'.get? b = some o) E)
        F.called_set.init.plain F.entry_set_init (check_set_init_1 isSet ?_)) fun r2 t2 hr2 => ?_
      · obtain ⟨⟨ocls, odict, odata, oslots⟩, hol, hcl, nl, hdl⟩ := hl
        simp only at hcl hdl
        subst hcl
        subst hdl
        have hol' : (s.heap.push (mtSet w)).get? l = some { cls := .type "list", dict := odict, data := .seq items nl, slots := oslots } := Heap.get?_push_of_some _ hol
        have noSet := F.sub_list_set
        have noFrz := F.sub_list_frozenset
        have noDict : (Value.type "list" == Value.type "dict") = false := by decide
        have stays : (s.heap.push (mtSet w)).IsList l items := ⟨_, hol', rfl, nl, rfl⟩
        unfold Builtin.«set.__init__» noKeywords Builtin.Frozenset.updateFrom
        generalize hPI : pyIter = PI
        wp_walk
        subst hPI
        refine wpAny_pyIter_list stays ?_
        refine wpAny_bind (wpAny_runValue ?_)
        have lS : l < s.heap.objs.size := Heap.lt_size hol
        have h3 : A.in1.in1.in1.handled = none := by simp [hh]
        have sz : (s.heap.push (mtSet w)).objs.size = s.heap.objs.size + 1 := Heap.size_push ..
        have notIt : l ≠ (s.heap.push (mtSet w)).objs.size := by
          rw [sz]
          exact Nat.ne_of_lt (Nat.lt_succ_of_lt lS)
        have apart : s.heap.objs.size ∉ [(s.heap.push (mtSet w)).objs.size, l] := by
          rw [sz]
          simp only [List.mem_cons, List.mem_singleton, List.not_mem_nil, or_false, not_or]
          exact ⟨Nat.ne_of_lt (Nat.lt_succ_self _), Nat.ne_of_gt lS⟩
        have vals : ∀ (i : Nat) (v : Value), items[i]? = some v → ∃ k t, ns[i]? = some k ∧ v = .int k t := fun i v hv => by
          have hi : i < ns.length := by
            rw [← size]
            exact (Array.getElem?_eq_some_iff.mp hv).1
          obtain ⟨t, e⟩ := PyProof.Rows.IntsAre.int_at hin i v (by rw [Array.getElem?_toList]; exact hv)
          refine ⟨ns[i], t, List.getElem?_eq_getElem hi, ?_⟩
          rw [e, List.getD_eq_getElem?_getD, List.getElem?_eq_getElem hi] <;> rfl
        refine set_update_ints ((Walks.list h3 _ l notIt items).toS) s.heap.objs.size apart ns size few vals (items.size - 0) 0 _ (by omega) (Nat.zero_le _) ⟨⟨_, Heap.get?_push_size _ rfl, rfl, rfl⟩, stays.push _⟩ ?first ?last
        case first => exact ⟨0, Nat.le_refl 0, setR_new_at (Heap.get?_push_of_some _ made)⟩
        case last =>
          intro t c' hm hc' hS'
          obtain ⟨h', g2, d', tk', os'⟩ := t
          have eg : g2 = s.gens := hm.gens
          have ed : d' = s.drawn := hm.drawn
          have eo : os' = s.os := hm.os
          subst eg
          subst ed
          subst eo
          show wpAny _ _ _ _ _ _
          refine wpAny_pure ?_
          show wpAny _ _ (ret Value.none) _ _ _
          rw [size] at hc'
          refine wpAny_pure ⟨rfl, h', tk', c', rfl, hS', hc', fun b o e => ?_⟩
          have b0 : b < s.heap.objs.size := Heap.lt_size e
          refine hm.heap b o ?_ (Heap.get?_push_of_some _ (Heap.get?_push_of_some _ e))
          simp only [List.mem_cons, List.mem_singleton, List.not_mem_nil, or_false, not_or]
          exact ⟨Nat.ne_of_lt b0, by rw [sz]; exact Nat.ne_of_lt (Nat.lt_succ_of_lt b0)⟩
      · cases r2 with
        | error e => exact hr2
        | ok fl2 =>
          cases fl2 with
          | ret r =>
            obtain ⟨rfl, h', tk, c', rfl, hS', hc', hk'⟩ := hr2
            repeat (any_goals (first | assumption | wp_step))
            exact h _ _ _ hS' hc' hk'
          | _ => exact hr2.elim
    | _ => exact hr.elim
end
/-- set(xs) of ints: its size is that of its members, each told once -/
def rSetI (K : PySem.W.Frag) (w : World) : List V → Hp → VK → Prop := fun xs H Q => ∃ (p : Addr) (ns : List Int), xs = [.ref p] ∧ (SqL K H p (ns.map V.int) ∨ SqT K H p (ns.map V.int)) ∧ ns.length ≤ 1000 ∧ ∀ (q : Addr) (l : List Int), H q = none → l.Nodup → (∀ k, k ∈ l ↔ k ∈ ns) → Q (.ref q) (upd H q (SetO w q (fun j => decide (j ∈ ns)) l.length))
theorem cr_setI {X : Cx} (hc : X.calm = true) : CallR X (.type "set") (rSetI X.K X.w) := by
  intro pins s σ H xs us Q I r h
  obtain ⟨p, ns, rfl, hq, hl, q⟩ := h
  rw [Vals.ref1 r]
  have few : ns.length + 1 < scanBound := by unfold scanBound; omega
  have fin : ∀ (h' : Heap) (tk c : Nat), SetR X.w h' s.heap.objs.size (fun j => decide (j ∈ ns)) c → c ≤ ns.length → (∀ b o, s.heap.get? b = some o → h'.get? b = some o) → EP X pins σ Q (.ref s.heap.objs.size) { s with heap := h', toks := tk } := fun h' tk c R hcn k => by
    obtain ⟨o, es, ep, t, h1, h2, h3, h4, h5, h6, h7, h8, h9, h10⟩ := R
    have R : SetR X.w h' s.heap.objs.size (fun j => decide (j ∈ ns)) c := ⟨o, es, ep, t, h1, h2, h3, h4, h5, h6, h7, h8, h9, h10⟩
    have hlen : (es.toList.map keyOf).length = c := by rw [List.length_map, Array.length_toList]; exact h9
    refine ⟨.ref _, upd H s.heap.objs.size (SetO X.w s.heap.objs.size (fun j => decide (j ∈ ns)) c), I.laid (t' := tk) k (Nat.le_refl _) (setO_new R), rfl, ?_⟩
    have := q s.heap.objs.size (es.toList.map keyOf) (I.hok.fresh (Nat.le_refl _)) h5 (fun k => by rw [← h6 k]; exact decide_eq_true_iff)
    rw [hlen] at this
    exact this
  rcases hq with hq | hq
  · obtain ⟨its, rv, pl, hz⟩ := I.list hq
    exact set_of_list ns (I.ok.hd hc) pl.isList (by rw [List.toList_toArray]; exact ints_of_vals rv) few fin
  · obtain ⟨its, rv, pt, hz⟩ := I.tuple hq
    exact call_set_tupI ns (I.ok.hd hc) (show s.heap.IsTuple p its.toArray from pt) (by rw [List.toList_toArray]; exact ints_of_vals rv) few fin
end Rk

/-! Rk3: xs + ys of any two lists that are read. -/
namespace Rk
open PySem PySem.Spec PyProof.Rows L2
open MeetsSeq in
theorem cat_meets {l b : Addr} {its its2 : Array Value} {n n2 : Nat} {d d2 : Option Addr} {z z2 : Array (Option Value)} (hz : its.size + its2.size ≤ sizeLine) :
    Meets (Builtin.«list.__add__» ⟨[.ref l, .ref b], []⟩) fun _ R s => s.heap.get? l = some { cls := .type "list", dict := d, data := .seq its n, slots := z } ∧ s.heap.get? b = some { cls := .type "list", dict := d2, data := .seq its2 n2, slots := z2 } ∧
      R (.ok (.ret (.ref s.heap.objs.size))) { s with heap := s.heap.push { cls := .type "list", data := .seq (its ++ its2) } } :=
  .of_wp fun prog w A R s h => by
    obtain ⟨hp, gs, dr, tk, os⟩ := s
    obtain ⟨hl, hb, h⟩ := h
    have sub1 := sub_list_list
    wp_walk using wpAny_loadPart' hl, wpAny_loadPart' hb
    exact ⟨_, rfl, h⟩
def rCatS (K : PySem.W.Frag) : R2 := fun x y H Q => ∃ l b xs zs, x = .ref l ∧ y = .ref b ∧ SqL K H l xs ∧ SqL K H b zs ∧ xs.length + zs.length ≤ sizeLine ∧ ∀ p, H p = none → Q (.ref p) (upd H p (.lst (xs ++ zs)))
theorem op_catS {X : Cx} : OpR X (binaryOp .Add) (rCatS X.K) := by
  intro pins s σ H x y v u Q I rx ry h
  obtain ⟨l, b, xs, zs, rfl, rfl, hL, hB, hz, q⟩ := h
  cases rx
  cases ry
  obtain ⟨its, r, ⟨⟨c, d, dt, sl⟩, n, e, hc, _, hd⟩, _⟩ := I.list hL
  obtain ⟨its2, r2, ⟨⟨c2, d2, dt2, sl2⟩, n2, e2, hc2, _, hd2⟩, _⟩ := I.list hB
  simp only at hc hd hc2 hd2
  subst hc hd hc2 hd2
  have l1 := r.length
  have l2 := r2.length
  have fits : its.toArray.size + its2.toArray.size ≤ sizeLine := by rw [List.size_toArray, List.size_toArray]; omega
  refine concat_meets ⟨_, e, rfl⟩ ⟨_, e2, rfl⟩ noFill_list_add seq_list_add F.slot_list_add F.entry_list_add (F.args_list_add_2 _ _) (cat_meets fits) ⟨e, e2, ?_⟩
  have ea : its.toArray ++ its2.toArray = (its ++ its2).toArray := by simp
  rw [ea]
  exact ⟨.ref _, _, I.lnew (t' := s.toks) (r.append r2) (by rw [List.length_append]; omega), rfl, q _ I.fresh⟩
end Rk

/-! Dl: data with ownership over the readings of HandS. -/
namespace Dl
open PySem PySem.Spec PyProof.Rows L2
open Evl (Ex)

section
variable {K : PySem.W.Frag} {H H' : Hp}
mutual
theorem dp_mono (e : Ex H H') : ∀ (d : PyData) (v : V), Dp K H v d → Dp K H' v d
  | .none, _, h => by cases h; exact .non
  | .bool b, _, h => by cases h; exact .bl b
  | .int i, _, h => by cases h; exact .int i
  | .str x, _, h => by cases h; exact .str x
  | .list ds, _, h => by
    cases h with
    | lst hs ha => exact .lst (Evl.ex_l e hs) (dpa_mono e ds _ ha)
  | .tuple ds, _, h => by
    cases h with
    | tup hs ha => exact .tup (Evl.ex_t e hs) (dpa_mono e ds _ ha)
  | .dict _, _, h => by cases h
theorem dpa_mono (e : Ex H H') : ∀ (ds : List PyData) (vs : List V), DpAll K H vs ds → DpAll K H' vs ds
  | [], _, h => by cases h; exact .nil
  | d :: ds, _, h => by
    cases h with
    | cons h1 h2 => exact .cons (dp_mono e d _ h1) (dpa_mono e ds _ h2)
end
theorem dpa_len : ∀ {vs : List V} {ds : List PyData}, DpAll K H vs ds → vs.length = ds.length
  | _, _, .nil => rfl
  | _, _, .cons _ t => by simp [dpa_len t]
theorem dpa_get : ∀ {vs : List V} {ds : List PyData} {i : Nat} {d : PyData}, DpAll K H vs ds → ds[i]? = some d → ∃ v, vs[i]? = some v ∧ Dp K H v d
  | _, _, _, _, .nil, e => by simp at e
  | _, _, 0, _, .cons r _, e => by simp at e; subst e; exact ⟨_, rfl, r⟩
  | _, _, i + 1, d, .cons _ t, e => by
    obtain ⟨u, h1, h2⟩ := dpa_get (i := i) (d := d) t (by simpa using e)
    exact ⟨u, by simpa using h1, h2⟩
theorem dpa_getv : ∀ {vs : List V} {ds : List PyData} {i : Nat} {v : V}, DpAll K H vs ds → vs[i]? = some v → ∃ d, ds[i]? = some d ∧ Dp K H v d
  | _, _, _, _, .nil, e => by simp at e
  | _, _, 0, _, .cons r _, e => by simp at e; subst e; exact ⟨_, rfl, r⟩
  | _, _, i + 1, v, .cons _ t, e => by
    obtain ⟨u, h1, h2⟩ := dpa_getv (i := i) (v := v) t (by simpa using e)
    exact ⟨u, by simpa using h1, h2⟩
theorem dpa_append : ∀ {xs ys : List V} {ds es : List PyData}, DpAll K H xs ds → DpAll K H ys es → DpAll K H (xs ++ ys) (ds ++ es)
  | _, _, _, _, .nil, s => s
  | _, _, _, _, .cons r t, s => .cons r (dpa_append t s)
theorem dpa_one {v : V} {d : PyData} (h : Dp K H v d) : DpAll K H [v] [d] := .cons h .nil
theorem dpa_take : ∀ {xs : List V} {ds : List PyData} (n : Nat), DpAll K H xs ds → DpAll K H (xs.take n) (ds.take n)
  | _, _, 0, _ => .nil
  | _, _, _ + 1, .nil => .nil
  | _, _, n + 1, .cons r t => .cons r (dpa_take n t)
theorem dpa_drop : ∀ {xs : List V} {ds : List PyData} (n : Nat), DpAll K H xs ds → DpAll K H (xs.drop n) (ds.drop n)
  | _, _, 0, r => r
  | _, _, _ + 1, .nil => .nil
  | _, _, n + 1, .cons _ t => dpa_drop n t
theorem dpa_set {v : V} {d : PyData} (r : Dp K H v d) : ∀ {xs : List V} {ds : List PyData} (i : Nat), DpAll K H xs ds → DpAll K H (xs.set i v) (ds.set i d)
  | _, _, _, .nil => .nil
  | _, _, 0, .cons _ t => .cons r t
  | _, _, i + 1, .cons q t => .cons q (dpa_set r i t)
theorem dpa_erase : ∀ {xs : List V} {ds : List PyData} (i : Nat), DpAll K H xs ds → DpAll K H (xs.eraseIdx i) (ds.eraseIdx i)
  | _, _, _, .nil => .nil
  | _, _, 0, .cons _ t => t
  | _, _, i + 1, .cons q t => .cons q (dpa_erase i t)
theorem dpa_rev {xs : List V} {ds : List PyData} (h : DpAll K H xs ds) : DpAll K H xs.reverse ds.reverse := by
  induction ds generalizing xs with
  | nil => cases h; exact .nil
  | cons d ds ih =>
    cases h with
    | cons r t =>
      rw [List.reverse_cons, List.reverse_cons]
      exact dpa_append (ih t) (dpa_one r)
theorem dpa_dropLast {xs : List V} {ds : List PyData} (h : DpAll K H xs ds) : DpAll K H xs.dropLast ds.dropLast := by
  rw [List.dropLast_eq_take, List.dropLast_eq_take, dpa_len h]
  exact dpa_take _ h
theorem dpa_ints : ∀ (ns : List Int), DpAll K H (ns.map V.int) (ns.map PyData.int)
  | [] => .nil
  | n :: r => .cons (.int n) (dpa_ints r)
theorem dpa_strs : ∀ (ns : List Str), DpAll K H (ns.map V.str) (ns.map PyData.str)
  | [] => .nil
  | n :: r => .cons (.str n) (dpa_strs r)
theorem dpa_ints_inv : ∀ {ns : List Int} {vs : List V}, DpAll K H vs (ns.map PyData.int) → vs = ns.map V.int
  | [], _, h => by cases h; rfl
  | n :: r, _, h => by
    cases h with
    | cons h1 h2 =>
      cases h1
      rw [dpa_ints_inv h2]
      rfl
theorem dpa_strs_inv : ∀ {ns : List Str} {vs : List V}, DpAll K H vs (ns.map PyData.str) → vs = ns.map V.str
  | [], _, h => by cases h; rfl
  | n :: r, _, h => by
    cases h with
    | cons h1 h2 =>
      cases h1
      rw [dpa_strs_inv h2]
      rfl
theorem dp_int_inv {v : V} {i : Int} (h : Dp K H v (.int i)) : v = .int i := by cases h; rfl
theorem dp_str_inv {v : V} {i : Str} (h : Dp K H v (.str i)) : v = .str i := by cases h; rfl
theorem dp_bl_inv {v : V} {i : Bool} (h : Dp K H v (.bool i)) : v = .bl i := by cases h; rfl
theorem dp_non_inv {v : V} (h : Dp K H v .none) : v = .non := by cases h; rfl
end

/-- flat data -/
def flatD : PyData → Bool
  | .none => true | .bool _ => true | .int _ => true | .str _ => true | _ => false
/-- the value of flat data -/
def valD : PyData → V
  | .none => .non | .bool b => .bl b | .int i => .int i | .str s => .str s | _ => .non
theorem flat_val {K : PySem.W.Frag} {H : Hp} {v : V} {d : PyData} (f : flatD d = true) (h : Dp K H v d) : v = valD d := by
  cases h <;> first | rfl | cases f
theorem dp_flat {K : PySem.W.Frag} {H : Hp} {d : PyData} (f : flatD d = true) : Dp K H (valD d) d := by
  cases d with
  | none => exact .non
  | bool b => exact .bl b
  | int i => exact .int i
  | str s => exact .str s
  | list _ => cases f
  | tuple _ => cases f
  | dict _ => cases f
theorem flat_flat {K : PySem.W.Frag} {H : Hp} {v : V} {d : PyData} (f : flatD d = true) (h : Dp K H v d) : flatV v = true := by
  cases h <;> first | rfl | cases f
theorem dp_any {K : PySem.W.Frag} {H H' : Hp} {v : V} {d : PyData} (f : flatD d = true) (h : Dp K H v d) : Dp K H' v d := by
  rw [flat_val f h]
  exact dp_flat f
theorem dpa_any {K : PySem.W.Frag} {H H' : Hp} : ∀ {vs : List V} {ds : List PyData}, ds.all flatD = true → DpAll K H vs ds → DpAll K H' vs ds
  | _, _, _, .nil => .nil
  | _, d :: ds, f, .cons r t => by
    rw [List.all_cons, Bool.and_eq_true] at f
    exact .cons (dp_any f.1 r) (dpa_any f.2 t)
theorem dpa_flat {K : PySem.W.Frag} {H : Hp} : ∀ {vs : List V} {ds : List PyData}, ds.all flatD = true → DpAll K H vs ds → vs.all flatV = true
  | _, _, _, .nil => rfl
  | _, d :: ds, f, .cons r t => by
    rw [List.all_cons, Bool.and_eq_true] at f
    rw [List.all_cons, flat_flat f.1 r, dpa_flat f.2 t]
    rfl

/-! ### owned things -/
structure Res where
  P : V → Hp → Hp → (Addr → Prop) → Prop
  loc : ∀ {v B H B' H' M}, P v B H M → Ex B B' → (∀ a, M a → H' a = H a) → P v B' H' M
  live : ∀ {v B H M}, P v B H M → ∀ a, M a → H a ≠ none
/-- a list of data, owned -/
def RL (K : PySem.W.Frag) (ds : List PyData) : Res where
  P v B H M := ∃ p xs, v = .ref p ∧ H p = some (.lst xs) ∧ DpAll K B xs ds ∧ ∀ a, M a ↔ a = p
  loc := by
    rintro v B H B' H' M ⟨p, xs, rfl, hp, hd, hM⟩ e k
    exact ⟨p, xs, rfl, by rw [k p ((hM p).mpr rfl)]; exact hp, dpa_mono e _ _ hd, hM⟩
  live := by
    rintro v B H M ⟨p, xs, rfl, hp, hd, hM⟩ a ha
    rw [(hM a).mp ha, hp]
    exact fun z => nomatch z
inductive Slot where
  | non | pu (d : PyData) | ow (R : Res) | al (i : Nat)

def SlotIn (K : PySem.W.Frag) (B H : Hp) (o : Option (Option V)) (M : Addr → Prop) : Slot → Prop
  | .non => ∀ a, ¬ M a
  | .pu d => ∃ v, o = some (some v) ∧ Dp K B v d ∧ ∀ a, ¬ M a
  | .ow R => ∃ v, o = some (some v) ∧ R.P v B H M ∧ ∀ a, M a → B a = none
  | .al _ => False
structure Sd (K : PySem.W.Frag) (B H : Hp) (σ : L2.St) (δ : List Slot) (F : Addr → Prop) : Prop where
  bh : Ex B H
  len : σ.length = δ.length
  fb : ∀ a, F a → B a = none
  fl : ∀ a, F a → H a ≠ none
  sl : ∃ ms : Nat → Addr → Prop, (∀ i s, δ[i]? = some s → SlotIn K B H σ[i]? (ms i) s) ∧ (∀ i j a, ms i a → ms j a → i = j) ∧ (∀ i a, ms i a → ¬ F a) ∧ ∀ i a, ms i a → i < δ.length
/-- things grow -/
structure Gr (B H B2 H2 : Hp) : Prop where
  b : Ex B B2
  h : Ex H H2
  bh : Ex B2 H2
  nw : ∀ a o, B2 a = some o → B a = some o ∨ H a = none
theorem Gr.refl {B H : Hp} (e : Ex B H) : Gr B H B H := ⟨Ex.refl _, Ex.refl _, e, fun _ _ h => .inl h⟩
theorem Gr.trans {B H B2 H2 B3 H3 : Hp} (x : Gr B H B2 H2) (y : Gr B2 H2 B3 H3) : Gr B H B3 H3 :=
  ⟨x.b.trans y.b, x.h.trans y.h, y.bh, fun a o h => (y.nw a o h).elim (x.nw a o) fun z => .inr (by
    cases q : H a with
    | none => rfl
    | some u => rw [x.h a u q] at z; cases z)⟩
theorem exnone {H H' : Hp} {a : Addr} (e : Ex H H') (h : H' a = none) : H a = none := by
  cases q : H a with
  | none => rfl
  | some u => rw [e a u q] at h; cases h
theorem some_of_ne {H : Hp} {a : Addr} (h : H a ≠ none) : ∃ o, H a = some o := by
  cases q : H a with
  | none => exact absurd q h
  | some u => exact ⟨u, rfl⟩
/-- a new object that stays as it is -/
theorem Gr.new {B H : Hp} {p : Addr} {o : HO} (e : Ex B H) (h : H p = none) : Gr B H (upd B p o) (upd H p o) := by
  have hb : B p = none := exnone e h
  refine ⟨Ex.new hb, Ex.new h, fun a u q => ?_, fun a u q => ?_⟩
  · by_cases ha : a = p
    · subst ha; rw [upd_same] at q ⊢; exact q
    · rw [upd_ne ha] at q ⊢; exact e a u q
  · by_cases ha : a = p
    · subst ha; exact .inr h
    · rw [upd_ne ha] at q; exact .inl q
/-- a new object, owned -/
theorem Gr.own {B H : Hp} {p : Addr} {o : HO} (e : Ex B H) (h : H p = none) : Gr B H B (upd H p o) :=
  ⟨Ex.refl _, Ex.new h, e.trans (Ex.new h), fun _ _ q => .inl q⟩
section
variable {K : PySem.W.Frag} {B H B2 H2 : Hp} {σ : L2.St} {δ : List Slot} {F M : Addr → Prop}
theorem grow_none (g : Gr B H B2 H2) {a : Addr} (hb : B a = none) (hh : H a ≠ none) : B2 a = none := by
  cases q : B2 a with
  | none => rfl
  | some o =>
    rcases g.nw a o q with z | z
    · rw [hb] at z; cases z
    · exact absurd z hh
theorem ex_eq {a : Addr} (e : Ex H H2) (hh : H a ≠ none) : H2 a = H a := by
  obtain ⟨o, ho⟩ := some_of_ne hh
  rw [ho]
  exact e a o ho
theorem Res.grow {R : Res} {v : V} (g : Gr B H B2 H2) (h : R.P v B H M) : R.P v B2 H2 M := R.loc h g.b fun a ha => ex_eq g.h (R.live h a ha)
theorem SlotIn.grow {o : Option (Option V)} {s : Slot} (g : Gr B H B2 H2) (h : SlotIn K B H o M s) : SlotIn K B2 H2 o M s := by
  cases s with
  | non => exact h
  | pu d => obtain ⟨v, e, hd, hM⟩ := h; exact ⟨v, e, dp_mono g.b _ _ hd, hM⟩
  | ow R => obtain ⟨v, e, hP, hb⟩ := h; exact ⟨v, e, R.grow g hP, fun a ha => grow_none g (hb a ha) (R.live hP a ha)⟩
  | al i => exact h
theorem Sd.grow (S : Sd K B H σ δ F) (g : Gr B H B2 H2) : Sd K B2 H2 σ δ F := by
  obtain ⟨ms, h1, h2, h3, h4⟩ := S.sl
  exact ⟨g.bh, S.len, fun a ha => grow_none g (S.fb a ha) (S.fl a ha), fun a ha => by rw [ex_eq g.h (S.fl a ha)]; exact S.fl a ha, ms, fun i s hs => (h1 i s hs).grow g, h2, h3, h4⟩
theorem Sd.less {F' : Addr → Prop} (S : Sd K B H σ δ F') (h : ∀ a, F a → F' a) : Sd K B H σ δ F := by
  obtain ⟨ms, h1, h2, h3, h4⟩ := S.sl
  exact ⟨S.bh, S.len, fun a ha => S.fb a (h a ha), fun a ha => S.fl a (h a ha), ms, h1, h2, fun i a q f => h3 i a q (h a f), h4⟩
theorem Sd.more (S : Sd K B H σ δ F) : Sd K B H σ δ fun a => F a ∨ False := S.less fun a h => h.elim id False.elim
theorem set_get_ne {α : Type} {l : List α} {i j : Nat} {x : α} (h : i ≠ j) : (l.set i x)[j]? = l[j]? := List.getElem?_set_ne h
def updM (ms : Nat → Addr → Prop) (i : Nat) (M : Addr → Prop) : Nat → Addr → Prop := fun j => if j = i then M else ms j
theorem updM_eq {ms : Nat → Addr → Prop} {i j : Nat} {M : Addr → Prop} (e : j = i) : updM ms i M j = M := if_pos e
theorem updM_ne {ms : Nat → Addr → Prop} {i j : Nat} {M : Addr → Prop} (e : ¬ j = i) : updM ms i M j = ms j := if_neg e
/-- a slot is put -/
theorem Sd.put {i : Nat} {x : Option V} {s : Slot} (S : Sd K B H σ δ F) (h : SlotIn K B H (some x) M s) (d : ∀ ms : Nat → Addr → Prop, (∀ i s, δ[i]? = some s → SlotIn K B H σ[i]? (ms i) s) → (∀ i a, ms i a → ¬ F a) → ∀ j a, M a → ms j a → j = i) (f : ∀ a, M a → ¬ F a) (hi : i < δ.length) :
    Sd K B H (σ.set i x) (δ.set i s) F := by
  obtain ⟨ms, h1, h2, h3, h4⟩ := S.sl
  refine ⟨S.bh, by simp [S.len], S.fb, S.fl, updM ms i M, fun j t ht => ?_, fun j k a hj hk => ?_, fun j a hj => ?_, fun j a hj => ?_⟩
  · by_cases e : j = i
    · subst e
      rw [List.getElem?_set_self hi] at ht
      cases ht
      rw [List.getElem?_set_self (by rw [S.len]; exact hi), updM_eq rfl]
      exact h
    · rw [List.getElem?_set_ne (Ne.symm e)] at ht ⊢
      rw [updM_ne e]
      exact h1 j t ht
  · by_cases e : j = i <;> by_cases e2 : k = i
    · rw [e, e2]
    · rw [updM_eq e] at hj
      rw [updM_ne e2] at hk
      exact absurd (d ms h1 h3 k a hj hk) e2
    · rw [updM_ne e] at hj
      rw [updM_eq e2] at hk
      exact absurd (d ms h1 h3 j a hk hj) e
    · rw [updM_ne e] at hj
      rw [updM_ne e2] at hk
      exact h2 j k a hj hk
  · by_cases e : j = i
    · rw [updM_eq e] at hj; exact f a hj
    · rw [updM_ne e] at hj; exact h3 j a hj
  · rw [List.length_set]
    by_cases e : j = i
    · rw [e]; exact hi
    · rw [updM_ne e] at hj; exact h4 j a hj
theorem Sd.put_pu {i : Nat} {v : V} {d : PyData} (S : Sd K B H σ δ F) (h : Dp K B v d) (hi : i < δ.length) : Sd K B H (σ.set i (some v)) (δ.set i (.pu d)) F :=
  S.put (M := fun _ => False) ⟨v, rfl, h, fun _ z => z⟩ (fun _ _ _ _ _ z => z.elim) (fun _ z => z.elim) hi
theorem Sd.put_non {i : Nat} {x : Option V} (S : Sd K B H σ δ F) (hi : i < δ.length) : Sd K B H (σ.set i x) (δ.set i .non) F :=
  S.put (M := fun _ => False) (fun _ z => z) (fun _ _ _ _ _ z => z.elim) (fun _ z => z.elim) hi
/-- a temporary's own is put into a slot -/
theorem Sd.put_ow {i : Nat} {v : V} {R : Res} (S : Sd K B H σ δ fun a => F a ∨ M a) (h : R.P v B H M) (f : ∀ a, M a → ¬ F a) (hi : i < δ.length) : Sd K B H (σ.set i (some v)) (δ.set i (.ow R)) F := by
  have S' : Sd K B H σ δ F := S.less fun a h => .inl h
  obtain ⟨ms, h1, h2, h3, h4⟩ := S.sl
  refine ⟨S'.bh, by simp [S'.len], S'.fb, S'.fl, updM ms i M, fun j t ht => ?_, fun j k a hj hk => ?_, fun j a hj => ?_, fun j a hj => ?_⟩
  · by_cases e : j = i
    · subst e
      rw [List.getElem?_set_self hi] at ht
      cases ht
      rw [List.getElem?_set_self (by rw [S'.len]; exact hi), updM_eq rfl]
      exact ⟨v, rfl, h, fun a ha => S.fb a (.inr ha)⟩
    · rw [List.getElem?_set_ne (Ne.symm e)] at ht ⊢
      rw [updM_ne e]
      exact h1 j t ht
  · by_cases e : j = i <;> by_cases e2 : k = i
    · rw [e, e2]
    · rw [updM_eq e] at hj
      rw [updM_ne e2] at hk
      exact absurd (.inr hj) (h3 k a hk)
    · rw [updM_ne e] at hj
      rw [updM_eq e2] at hk
      exact absurd (.inr hk) (h3 j a hj)
    · rw [updM_ne e] at hj
      rw [updM_ne e2] at hk
      exact h2 j k a hj hk
  · by_cases e : j = i
    · rw [updM_eq e] at hj; exact f a hj
    · rw [updM_ne e] at hj; exact fun z => h3 j a hj (.inl z)
  · rw [List.length_set]
    by_cases e : j = i
    · rw [e]; exact hi
    · rw [updM_ne e] at hj; exact h4 j a hj
/-- an owned slot is opened: what stands there, and how it may be changed -/
theorem Sd.opn {i : Nat} {R : Res} (S : Sd K B H σ δ F) (hi : δ[i]? = some (.ow R)) : ∃ v M, σ[i]? = some (some v) ∧ R.P v B H M ∧ (∀ a, M a → B a = none) ∧ (∀ a, M a → ¬ F a) ∧
    ∀ B2 H2 x s' M', Ex B B2 → Ex B2 H2 → (∀ a o, H a = some o → ¬ M a → H2 a = some o) → (∀ a o, B2 a = some o → B a = some o ∨ H a = none ∨ M a) → SlotIn K B2 H2 (some x) M' s' → (∀ a, M' a → M a ∨ H a = none) →
      Sd K B2 H2 (σ.set i x) (δ.set i s') F := by
  obtain ⟨ms, h1, h2, h3, h4⟩ := S.sl
  obtain ⟨v, ev, hP, hb⟩ := h1 i _ hi
  refine ⟨v, ms i, ev, hP, hb, h3 i, fun B2 H2 x s' M' e1 e2 k nw hs hM => ?_⟩
  have il : i < δ.length := (List.getElem?_eq_some_iff.mp hi).1
  have fb2 : ∀ a, B a = none → H a ≠ none → ¬ ms i a → B2 a = none := fun a b1 b2 b3 => by
    cases q : B2 a with
    | none => rfl
    | some o =>
      rcases nw a o q with z | z | z
      · rw [b1] at z; cases z
      · exact absurd z b2
      · exact absurd z b3
  have keep : ∀ a, H a ≠ none → ¬ ms i a → H2 a = H a := fun a ha hn => by
    obtain ⟨o, ho⟩ := some_of_ne ha
    rw [ho]
    exact k a o ho hn
  have nF : ∀ a, F a → ¬ ms i a := fun a f m => h3 i a m f
  refine ⟨e2, by simp [S.len], fun a ha => fb2 a (S.fb a ha) (S.fl a ha) (nF a ha), fun a ha => by rw [keep a (S.fl a ha) (nF a ha)]; exact S.fl a ha, updM ms i M', fun j t ht => ?_, fun j l a hj hl => ?_, fun j a hj => ?_, fun j a hj => ?_⟩
  · by_cases e : j = i
    · subst e
      rw [List.getElem?_set_self il] at ht
      cases ht
      rw [List.getElem?_set_self (by rw [S.len]; exact il), updM_eq rfl]
      exact hs
    · rw [List.getElem?_set_ne (Ne.symm e)] at ht ⊢
      rw [updM_ne e]
      have q := h1 j t ht
      cases t with
      | non => exact q
      | pu d => obtain ⟨u, e3, hd, hM⟩ := q; exact ⟨u, e3, dp_mono e1 _ _ hd, hM⟩
      | ow R' =>
        obtain ⟨u, e3, hP', hb'⟩ := q
        have nd : ∀ a, ms j a → ¬ ms i a := fun a p p' => e (h2 j i a p p')
        exact ⟨u, e3, R'.loc hP' e1 fun a ha => keep a (R'.live hP' a ha) (nd a ha), fun a ha => fb2 a (hb' a ha) (R'.live hP' a ha) (nd a ha)⟩
      | al _ => exact q
  · have lv : ∀ j a, ms j a → H a ≠ none := fun j a hj => by
      have hl := h4 j a hj
      obtain ⟨t, ht⟩ : ∃ t, δ[j]? = some t := ⟨δ[j], List.getElem?_eq_getElem hl⟩
      have q := h1 j t ht
      cases t with
      | non => exact absurd hj (q a)
      | pu d => obtain ⟨_, _, _, hM⟩ := q; exact absurd hj (hM a)
      | ow R' => obtain ⟨u, e3, hP', hb'⟩ := q; exact R'.live hP' a hj
      | al _ => exact q.elim
    by_cases e : j = i <;> by_cases e3 : l = i
    · rw [e, e3]
    · rw [updM_eq e] at hj
      rw [updM_ne e3] at hl
      rcases hM a hj with z | z
      · exact absurd (h2 l i a hl z) e3
      · exact absurd z (lv l a hl)
    · rw [updM_ne e] at hj
      rw [updM_eq e3] at hl
      rcases hM a hl with z | z
      · exact absurd (h2 j i a hj z) e
      · exact absurd z (lv j a hj)
    · rw [updM_ne e] at hj
      rw [updM_ne e3] at hl
      exact h2 j l a hj hl
  · by_cases e : j = i
    · rw [updM_eq e] at hj
      intro f
      rcases hM a hj with z | z
      · exact h3 i a z f
      · exact S.fl a f z
    · rw [updM_ne e] at hj; exact h3 j a hj
  · rw [List.length_set]
    by_cases e : j = i
    · rw [e]; exact il
    · rw [updM_ne e] at hj; exact h4 j a hj
theorem set_self {i : Nat} {x : Option V} (h : σ[i]? = some x) : σ.set i x = σ := by
  apply List.ext_getElem?
  intro j
  by_cases e : j = i
  · subst e
    rw [h, List.getElem?_set_self (List.getElem?_eq_some_iff.mp h).1]
  · rw [List.getElem?_set_ne (Ne.symm e)]
theorem Sd.pu {i : Nat} {d : PyData} (S : Sd K B H σ δ F) (hi : δ[i]? = some (.pu d)) : ∃ v, σ[i]? = some (some v) ∧ Dp K B v d := by
  obtain ⟨ms, h1, _⟩ := S.sl
  obtain ⟨v, e, hd, _⟩ := h1 i _ hi
  exact ⟨v, e, hd⟩
end

/-! ### values -/
def VOk (K : PySem.W.Frag) (σ : L2.St) (δ : List Slot) (B H : Hp) (v : V) (M : Addr → Prop) : Slot → Prop
  | .non => False
  | .pu d => Dp K B v d ∧ ∀ a, ¬ M a
  | .ow R => R.P v B H M
  | .al i => σ[i]? = some (some v) ∧ ∀ a, ¬ M a
/-- a reference that owns nothing -/
def RRef (a : Addr) : Res where
  P v _ _ M := v = .ref a ∧ ∀ b, ¬ M b
  loc := fun ⟨e, h⟩ _ _ => ⟨e, h⟩
  live := fun ⟨_, h⟩ b hb => absurd hb (h b)
/-- what is owned shows a list of data at an address -/
def Shows (K : PySem.W.Frag) (R : Res) (a : Addr) (ds : List PyData) : Prop := ∀ v B H M, R.P v B H M → ∃ xs, H a = some (.lst xs) ∧ DpAll K B xs ds
/-- what a slot's value denotes as data now -/
def den (K : PySem.W.Frag) (δ : List Slot) (s : Slot) (d : PyData) : Prop :=
  s = .pu d ∨ (∃ ds, d = .list ds ∧ (s = .ow (RL K ds) ∨ ∃ i, s = .al i ∧ δ[i]? = some (.ow (RL K ds)))) ∨ ∃ (ds : List PyData) (a : Addr) (i : Nat) (R : Res), d = .list ds ∧ s = Slot.ow (RRef a) ∧ δ[i]? = some (Slot.ow R) ∧ Shows K R a ds
/-- top level read now, contents fixed -/
def Dr (K : PySem.W.Frag) (B H : Hp) (v : V) (d : PyData) : Prop := Dp K B v d ∨ ∃ p xs ds, v = .ref p ∧ d = .list ds ∧ H p = some (.lst xs) ∧ DpAll K B xs ds
theorem Dr.dp {K : PySem.W.Frag} {B H : Hp} {v : V} {d : PyData} (e : Ex B H) (h : Dr K B H v d) : Dp K H v d := by
  rcases h with h | ⟨p, xs, ds, rfl, rfl, hp, ha⟩
  · exact dp_mono e _ _ h
  · exact .lst (SqL.of hp) (dpa_mono e _ _ ha)
theorem Dr.lst {K : PySem.W.Frag} {B H : Hp} {v : V} {ds : List PyData} (e : Ex B H) (h : Dr K B H v (.list ds)) : ∃ p xs, v = .ref p ∧ SqL K H p xs ∧ DpAll K B xs ds := by
  rcases h with h | ⟨p, xs, ds, rfl, e2, hp, ha⟩
  · cases h with
    | lst hs ha => exact ⟨_, _, rfl, Evl.ex_l e hs, ha⟩
  · cases e2
    exact ⟨p, xs, rfl, SqL.of hp, ha⟩
theorem Dr.tup {K : PySem.W.Frag} {B H : Hp} {v : V} {ds : List PyData} (e : Ex B H) (h : Dr K B H v (.tuple ds)) : ∃ p xs, v = .ref p ∧ SqT K H p xs ∧ DpAll K B xs ds := by
  rcases h with h | ⟨p, xs, ds, rfl, e2, hp, ha⟩
  · cases h with
    | tup hs ha => exact ⟨_, _, rfl, Evl.ex_t e hs, ha⟩
  · cases e2
theorem Dr.grow {K : PySem.W.Frag} {B H B2 H2 : Hp} {v : V} {d : PyData} (g : Gr B H B2 H2) (h : Dr K B H v d) : Dr K B2 H2 v d := by
  rcases h with h | ⟨p, xs, ds, rfl, rfl, hp, ha⟩
  · exact .inl (dp_mono g.b _ _ h)
  · exact .inr ⟨p, xs, ds, rfl, rfl, g.h _ _ hp, dpa_mono g.b _ _ ha⟩
section
variable {K : PySem.W.Frag} {B H B2 H2 : Hp} {σ : L2.St} {δ : List Slot} {F M : Addr → Prop}
theorem den_dr {v : V} {s : Slot} {d : PyData} {F' : Addr → Prop} (S : Sd K B H σ δ F') (h : VOk K σ δ B H v M s) (hd : den K δ s d) : Dr K B H v d := by
  rcases hd with rfl | ⟨ds, rfl, rfl | ⟨i, rfl, hi⟩⟩ | ⟨ds, a, i, R, rfl, rfl, hi, hs⟩
  · exact .inl h.1
  · obtain ⟨p, xs, rfl, hp, ha, _⟩ := h
    exact .inr ⟨p, xs, ds, rfl, rfl, hp, ha⟩
  · obtain ⟨e, _⟩ := h
    obtain ⟨v', M', e', hP, _⟩ := S.opn hi
    rw [e] at e'
    cases e'
    obtain ⟨p, xs, rfl, hp, ha, _⟩ := hP
    exact .inr ⟨p, xs, ds, rfl, rfl, hp, ha⟩
  · obtain ⟨rfl, _⟩ := h
    obtain ⟨v', M', ev, hP, _⟩ := S.opn hi
    obtain ⟨xs, hp, ha⟩ := hs _ _ _ _ hP
    exact .inr ⟨a, xs, ds, rfl, rfl, hp, ha⟩
/-- a temporary's own becomes data that stays -/
theorem freeze {v : V} {ds : List PyData} (S : Sd K B H σ δ fun a => F a ∨ M a) (h : (RL K ds).P v B H M) (f : ∀ a, M a → ¬ F a) : ∃ B2, Ex B B2 ∧ Sd K B2 H σ δ F ∧ Dp K B2 v (.list ds) := by
  obtain ⟨p, xs, rfl, hp, ha, hM⟩ := h
  have hb : B p = none := S.fb p (.inr ((hM p).mpr rfl))
  have e1 : Ex B (upd B p (.lst xs)) := Ex.new hb
  obtain ⟨ms, h1, h2, h3, h4⟩ := S.sl
  have e2 : Ex (upd B p (.lst xs)) H := fun a u q => by
    by_cases e : a = p
    · subst e; rw [upd_same] at q; cases q; exact hp
    · rw [upd_ne e] at q; exact S.bh a u q
  refine ⟨_, e1, ⟨e2, S.len, fun a ha => ?_, fun a ha => S.fl a (.inl ha), ms, fun i s hs => ?_, h2, fun i a q z => h3 i a q (.inl z), h4⟩, .lst (SqL.of upd_same) (dpa_mono e1 _ _ ha)⟩
  · rw [upd_ne (fun z => f a ((hM a).mpr z) ha)]
    exact S.fb a (.inl ha)
  · have q := h1 i s hs
    cases s with
    | non => exact q
    | pu d => obtain ⟨u, e3, hd, hM⟩ := q; exact ⟨u, e3, dp_mono e1 _ _ hd, hM⟩
    | ow R' =>
      obtain ⟨u, e3, hP', hb'⟩ := q
      refine ⟨u, e3, R'.loc hP' e1 fun _ _ => rfl, fun a ha => ?_⟩
      rw [upd_ne (fun z => h3 i a ha (.inr ((hM a).mpr z)))]
      exact hb' a ha
    | al _ => exact q
end

/-! ### expressions -/
def EvS (K : PySem.W.Frag) (te : TE) (δ : List Slot) (Φ : Slot → List Slot → Prop) : Prop :=
  ∀ (B H : Hp) (σ : L2.St) (F : Addr → Prop) (Q : VK), Sd K B H σ δ F →
    (∀ v M s B2 H2 δ2, Ex B B2 → (∀ a, F a → H2 a = H a) → Sd K B2 H2 σ δ2 (fun a => F a ∨ M a) → VOk K σ δ2 B2 H2 v M s → (∀ a, M a → ¬ F a) → Φ s δ2 → Q v H2) → te σ H Q
/-- .. to data that stays -/
def EvD (K : PySem.W.Frag) (te : TE) (δ : List Slot) (Φ : PyData → List Slot → Prop) : Prop :=
  ∀ (B H : Hp) (σ : L2.St) (F : Addr → Prop) (Q : VK), Sd K B H σ δ F →
    (∀ v d B2 H2 δ2, Ex B B2 → (∀ a, F a → H2 a = H a) → Sd K B2 H2 σ δ2 F → Dp K B2 v d → Φ d δ2 → Q v H2) → te σ H Q
def frz (K : PySem.W.Frag) (s : Slot) (d : PyData) : Prop := s = .pu d ∨ ∃ ds, d = .list ds ∧ s = .ow (RL K ds)
theorem frz_pu {K : PySem.W.Frag} {d : PyData} : frz K (.pu d) d := .inl rfl
theorem frz_ow {K : PySem.W.Frag} {ds : List PyData} : frz K (.ow (RL K ds)) (.list ds) := .inr ⟨ds, rfl, rfl⟩
theorem den_pu {K : PySem.W.Frag} {δ : List Slot} {d : PyData} : den K δ (.pu d) d := .inl rfl
theorem den_ow {K : PySem.W.Frag} {δ : List Slot} {ds : List PyData} : den K δ (.ow (RL K ds)) (.list ds) := .inr (.inl ⟨ds, rfl, .inl rfl⟩)
theorem den_al {K : PySem.W.Frag} {δ : List Slot} {i : Nat} {ds : List PyData} (h : δ[i]? = some (.ow (RL K ds))) : den K δ (.al i) (.list ds) := .inr (.inl ⟨ds, rfl, .inr ⟨i, rfl, h⟩⟩)
theorem den_ref {K : PySem.W.Frag} {δ : List Slot} {i : Nat} {a : Addr} {R : Res} {ds : List PyData} (h : δ[i]? = some (.ow R)) (hs : Shows K R a ds) : den K δ (.ow (RRef a)) (.list ds) := .inr (.inr ⟨ds, a, i, R, rfl, rfl, h, hs⟩)
def EvT (K : PySem.W.Frag) (tt : TT) (δ : List Slot) (Φ : Bool → List Slot → Prop) : Prop :=
  ∀ (B H : Hp) (σ : L2.St) (F : Addr → Prop) (Q : Bool → Hp → Prop), Sd K B H σ δ F →
    (∀ b B2 H2 δ2, Ex B B2 → (∀ a, F a → H2 a = H a) → Sd K B2 H2 σ δ2 F → Φ b δ2 → Q b H2) → tt σ H Q
/-- arguments -/
inductive AOk (K : PySem.W.Frag) (σ : L2.St) (δ : List Slot) (B H : Hp) : List V → List Slot → (Addr → Prop) → Prop
  | nil : AOk K σ δ B H [] [] (fun _ => False)
  | cons {v : V} {s : Slot} {M1 : Addr → Prop} {vs : List V} {ss : List Slot} {M2 : Addr → Prop} : VOk K σ δ B H v M1 s → (∀ a, M1 a → ¬ M2 a) → AOk K σ δ B H vs ss M2 → AOk K σ δ B H (v :: vs) (s :: ss) (fun a => M1 a ∨ M2 a)
def EvA (K : PySem.W.Frag) (ta : TA) (δ : List Slot) (Φ : List Slot → List Slot → Prop) : Prop :=
  ∀ (B H : Hp) (σ : L2.St) (F : Addr → Prop) (Q : List V → Hp → Prop), Sd K B H σ δ F →
    (∀ vs M ss B2 H2 δ2, Ex B B2 → (∀ a, F a → H2 a = H a) → Sd K B2 H2 σ δ2 (fun a => F a ∨ M a) → AOk K σ δ2 B2 H2 vs ss M → (∀ a, M a → ¬ F a) → Φ ss δ2 → Q vs H2) → ta σ H Q
section
variable {K : PySem.W.Frag} {δ : List Slot} {te ta tb : TE} {tt tu : TT}
theorem EvS.imp {Φ Ψ : Slot → List Slot → Prop} (h : EvS K te δ Φ) (i : ∀ s δ2, Φ s δ2 → Ψ s δ2) : EvS K te δ Ψ := fun B H σ F Q S k => h B H σ F Q S fun v M s B2 H2 δ2 e f S2 w n p => k v M s B2 H2 δ2 e f S2 w n (i s δ2 p)
theorem EvT.imp {Φ Ψ : Bool → List Slot → Prop} (h : EvT K tt δ Φ) (i : ∀ s δ2, Φ s δ2 → Ψ s δ2) : EvT K tt δ Ψ := fun B H σ F Q S k => h B H σ F Q S fun b B2 H2 δ2 e f S2 p => k b B2 H2 δ2 e f S2 (i b δ2 p)
theorem ev_pu {i : Nat} {d : PyData} {Φ : Slot → List Slot → Prop} (hi : δ[i]? = some (.pu d)) (h : Φ (.pu d) δ) : EvS K (tVar i) δ Φ := fun B H σ F Q S k => by
  obtain ⟨v, e, hd⟩ := S.pu hi
  exact ⟨v, e, k v (fun _ => False) (.pu d) B H δ (Ex.refl _) (fun _ _ => rfl) (S.less fun a z => z.elim id False.elim) ⟨hd, fun _ z => z⟩ (fun _ z => z.elim) h⟩
theorem ev_al {i : Nat} {R : Res} {Φ : Slot → List Slot → Prop} (hi : δ[i]? = some (.ow R)) (h : Φ (.al i) δ) : EvS K (tVar i) δ Φ := fun B H σ F Q S k => by
  obtain ⟨v, M, e, hP, _⟩ := S.opn hi
  exact ⟨v, e, k v (fun _ => False) (.al i) B H δ (Ex.refl _) (fun _ _ => rfl) (S.less fun a z => z.elim id False.elim) ⟨e, fun _ z => z⟩ (fun _ z => z.elim) h⟩
theorem ev_c {v : V} {d : PyData} {Φ : Slot → List Slot → Prop} (hd : ∀ B : Hp, Dp K B v d) (h : Φ (.pu d) δ) : EvS K (tC v) δ Φ := fun B H σ F Q S k =>
  k v (fun _ => False) (.pu d) B H δ (Ex.refl _) (fun _ _ => rfl) (S.less fun a z => z.elim id False.elim) ⟨hd B, fun _ z => z⟩ (fun _ z => z.elim) h
theorem ev_int {i : Int} {Φ : Slot → List Slot → Prop} (h : Φ (.pu (.int i)) δ) : EvS K (tC (.int i)) δ Φ := ev_c (fun _ => .int i) h
theorem ev_bl {i : Bool} {Φ : Slot → List Slot → Prop} (h : Φ (.pu (.bool i)) δ) : EvS K (tC (.bl i)) δ Φ := ev_c (fun _ => .bl i) h
theorem ev_str {i : Str} {Φ : Slot → List Slot → Prop} (h : Φ (.pu (.str i)) δ) : EvS K (tC (.str i)) δ Φ := ev_c (fun _ => .str i) h
theorem ev_non {Φ : Slot → List Slot → Prop} (h : Φ (.pu .none) δ) : EvS K (tC .non) δ Φ := ev_c (fun _ => .non) h
/-- to data that stays -/
theorem ed_of {Φ : PyData → List Slot → Prop} (h : EvS K te δ fun s δ2 => ∃ d, frz K s d ∧ Φ d δ2) : EvD K te δ Φ := fun B H σ F Q S k =>
  h B H σ F Q S fun v M s B2 H2 δ2 e f S2 w n p => by
    obtain ⟨d, hf, q⟩ := p
    rcases hf with rfl | ⟨ds, rfl, rfl⟩
    · exact k v d B2 H2 δ2 e f (S2.less fun a z => .inl z) w.1 q
    · obtain ⟨B3, e3, S3, hd⟩ := freeze S2 w n
      exact k v _ B3 H2 δ2 (e.trans e3) f S3 hd q
/-- what holds of a temporary holds behind a further step -/
theorem VOk.step {σ : L2.St} {δ δ2 : List Slot} {B H B2 H2 : Hp} {v : V} {M : Addr → Prop} {s : Slot} (h : VOk K σ δ B H v M s) (e : Ex B B2) (f : ∀ a, M a → H2 a = H a) : VOk K σ δ2 B2 H2 v M s := by
  cases s with
  | non => exact h
  | pu d => exact ⟨dp_mono e _ _ h.1, h.2⟩
  | ow R => exact R.loc h e f
  | al i => exact h
end
end Dl

namespace Dl
open PySem PySem.Spec PyProof.Rows L2
open Evl (Ex)
section
variable {K : PySem.W.Frag} {δ : List Slot} {te ta tb tc : TE} {tt tu : TT} {r : R2}

/-! ### contracts of operations on values -/
/-- the result is data that stays -/
def OpP (K : PySem.W.Frag) (r : R2) (x y z : PyData) : Prop := ∀ (B H : Hp) (u v : V) (Q : VK), Ex B H → Dr K B H u x → Dr K B H v y → (∀ w B2 H2, Gr B H B2 H2 → Dp K B2 w z → Q w H2) → r u v H Q
/-- the result is a new list -/
def OpL (K : PySem.W.Frag) (r : R2) (x y : PyData) (zs : List PyData) : Prop := ∀ (B H : Hp) (u v : V) (Q : VK), Ex B H → Dr K B H u x → Dr K B H v y → (∀ p xs, H p = none → DpAll K B xs zs → Q (.ref p) (upd H p (.lst xs))) → r u v H Q
abbrev R1 := V → Hp → VK → Prop
def UnP (K : PySem.W.Frag) (r : R1) (x z : PyData) : Prop := ∀ (B H : Hp) (u : V) (Q : VK), Ex B H → Dr K B H u x → (∀ w B2 H2, Gr B H B2 H2 → Dp K B2 w z → Q w H2) → r u H Q
def UnL (K : PySem.W.Frag) (r : R1) (x : PyData) (zs : List PyData) : Prop := ∀ (B H : Hp) (u : V) (Q : VK), Ex B H → Dr K B H u x → (∀ p xs, H p = none → DpAll K B xs zs → Q (.ref p) (upd H p (.lst xs))) → r u H Q

theorem sd_own {B H : Hp} {σ : L2.St} {F : Addr → Prop} {p : Addr} {o : HO} (S : Sd K B H σ δ F) (hp : H p = none) : Sd K B (upd H p o) σ δ fun a => F a ∨ a = p := by
  have g : Gr B H B (upd H p o) := Gr.own S.bh hp
  have S2 := S.grow g
  obtain ⟨ms, h1, h2, h3, h4⟩ := S.sl
  obtain ⟨ms2, k1, k2, k3, k4⟩ := S2.sl
  refine ⟨S2.bh, S2.len, fun a ha => ?_, fun a ha => ?_, ms, fun i s hs => (h1 i s hs).grow g, h2, fun i a q z => ?_, h4⟩
  · rcases ha with z | rfl
    · exact S.fb a z
    · exact exnone S.bh hp
  · rcases ha with z | rfl
    · exact S2.fl a z
    · rw [upd_same]; exact fun z => nomatch z
  · rcases z with z | rfl
    · exact h3 i a q z
    · have hl := h4 i a q
      have q2 := h1 i δ[i] (List.getElem?_eq_getElem hl)
      cases e : δ[i] with
      | non => rw [e] at q2; exact q2 a q
      | pu d => rw [e] at q2; obtain ⟨_, _, _, z⟩ := q2; exact z a q
      | ow R => rw [e] at q2; obtain ⟨_, _, hP, _⟩ := q2; exact R.live hP a q hp
      | al j => rw [e] at q2; exact q2
theorem rl_new {B H : Hp} {p : Addr} {xs : List V} {zs : List PyData} (ha : DpAll K B xs zs) : (RL K zs).P (.ref p) B (upd H p (.lst xs)) (fun a => a = p) := ⟨p, xs, rfl, upd_same, ha, fun _ => Iff.rfl⟩

theorem ev_opP {Φ : Slot → List Slot → Prop} (h : EvS K ta δ fun s1 δ1 => EvS K tb δ1 fun s2 δ2 => ∃ x y z, den K δ2 s1 x ∧ den K δ2 s2 y ∧ OpP K r x y z ∧ Φ (.pu z) δ2) : EvS K (tOp r ta tb) δ Φ := fun B H σ F Q S k =>
  h B H σ F _ S fun v1 M1 s1 B1 H1 δ1 e1 f1 S1 w1 n1 p1 => p1 B1 H1 σ _ _ S1 fun v2 M2 s2 B2 H2 δ2 e2 f2 S2 w2 n2 p2 => by
    obtain ⟨x, y, z, d1, d2, hO, q⟩ := p2
    have w1' : VOk K σ δ2 B2 H2 v1 M1 s1 := w1.step e2 fun a ha => f2 a (.inr ha)
    refine hO B2 H2 v1 v2 Q S2.bh (den_dr S2 w1' d1) (den_dr S2 w2 d2) fun w B3 H3 g hz => ?_
    exact k w (fun _ => False) (.pu z) B3 H3 δ2 ((e1.trans e2).trans g.b) (fun a ha => by
      rw [ex_eq g.h (S2.fl a (.inl (.inl ha))), f2 a (.inl ha), f1 a ha]) ((S2.grow g).less fun a ha => ha.elim (fun z => .inl (.inl z)) False.elim) ⟨hz, fun _ z => z⟩ (fun _ z => z.elim) q
theorem ev_opL {Φ : Slot → List Slot → Prop} (h : EvS K ta δ fun s1 δ1 => EvS K tb δ1 fun s2 δ2 => ∃ x y zs, den K δ2 s1 x ∧ den K δ2 s2 y ∧ OpL K r x y zs ∧ Φ (.ow (RL K zs)) δ2) : EvS K (tOp r ta tb) δ Φ := fun B H σ F Q S k =>
  h B H σ F _ S fun v1 M1 s1 B1 H1 δ1 e1 f1 S1 w1 n1 p1 => p1 B1 H1 σ _ _ S1 fun v2 M2 s2 B2 H2 δ2 e2 f2 S2 w2 n2 p2 => by
    obtain ⟨x, y, zs, d1, d2, hO, q⟩ := p2
    have w1' : VOk K σ δ2 B2 H2 v1 M1 s1 := w1.step e2 fun a ha => f2 a (.inr ha)
    have SF : Sd K B2 H2 σ δ2 F := S2.less fun a ha => .inl (.inl ha)
    refine hO B2 H2 v1 v2 Q S2.bh (den_dr S2 w1' d1) (den_dr S2 w2 d2) fun p xs hp hz => ?_
    refine k (.ref p) (fun a => a = p) (.ow (RL K zs)) B2 _ δ2 (e1.trans e2) (fun a ha => ?_) (sd_own SF hp) (rl_new hz) (fun a ha f => ?_) q
    · rw [upd_ne (fun z => SF.fl a ha (by rw [z]; exact hp)), f2 a (.inl ha), f1 a ha]
    · rw [ha] at f; exact SF.fl p f hp
theorem ev_unP {r : R1} {Φ : Slot → List Slot → Prop} (h : EvS K ta δ fun s1 δ1 => ∃ x z, den K δ1 s1 x ∧ UnP K r x z ∧ Φ (.pu z) δ1) : EvS K (fun σ H Q => ta σ H fun x H1 => r x H1 Q) δ Φ := fun B H σ F Q S k =>
  h B H σ F _ S fun v2 M2 s2 B2 H2 δ2 e2 f2 S2 w2 n2 p2 => by
    obtain ⟨y, z, d2, hO, q⟩ := p2
    refine hO B2 H2 v2 Q S2.bh (den_dr S2 w2 d2) fun w B3 H3 g hz => ?_
    exact k w (fun _ => False) (.pu z) B3 H3 δ2 (e2.trans g.b) (fun a ha => by
      rw [ex_eq g.h (S2.fl a (.inl ha)), f2 a ha]) ((S2.grow g).less fun a ha => ha.elim (fun z => .inl z) False.elim) ⟨hz, fun _ z => z⟩ (fun _ z => z.elim) q
theorem ev_unL {r : R1} {Φ : Slot → List Slot → Prop} (h : EvS K ta δ fun s1 δ1 => ∃ x zs, den K δ1 s1 x ∧ UnL K r x zs ∧ Φ (.ow (RL K zs)) δ1) : EvS K (fun σ H Q => ta σ H fun x H1 => r x H1 Q) δ Φ := fun B H σ F Q S k =>
  h B H σ F _ S fun v2 M2 s2 B2 H2 δ2 e2 f2 S2 w2 n2 p2 => by
    obtain ⟨y, zs, d2, hO, q⟩ := p2
    have SF : Sd K B2 H2 σ δ2 F := S2.less fun a ha => .inl ha
    refine hO B2 H2 v2 Q S2.bh (den_dr S2 w2 d2) fun p xs hp hz => ?_
    refine k (.ref p) (fun a => a = p) (.ow (RL K zs)) B2 _ δ2 e2 (fun a ha => ?_) (sd_own SF hp) (rl_new hz) (fun a ha f => ?_) q
    · rw [upd_ne (fun z => SF.fl a ha (by rw [z]; exact hp)), f2 a ha]
    · rw [ha] at f; exact SF.fl p f hp
/-! a result that is flat -/
theorem opP_flat {x y z : PyData} (f : flatD z = true) (h : ∀ (B H : Hp) (u v : V) (Q : VK), Ex B H → Dr K B H u x → Dr K B H v y → Q (valD z) H → r u v H Q) : OpP K r x y z := fun B H u v Q e d1 d2 k => h B H u v Q e d1 d2 (k _ B H (Gr.refl e) (dp_flat f))
theorem unP_flat {r : R1} {x z : PyData} (f : flatD z = true) (h : ∀ (B H : Hp) (u : V) (Q : VK), Ex B H → Dr K B H u x → Q (valD z) H → r u H Q) : UnP K r x z := fun B H u Q e d1 k => h B H u Q e d1 (k _ B H (Gr.refl e) (dp_flat f))
theorem dr_int {B H : Hp} {v : V} {i : Int} (h : Dr K B H v (.int i)) : v = .int i := by
  rcases h with h | ⟨p, xs, ds, rfl, e, _⟩
  · exact dp_int_inv h
  · cases e
theorem dr_str {B H : Hp} {v : V} {i : Str} (h : Dr K B H v (.str i)) : v = .str i := by
  rcases h with h | ⟨p, xs, ds, rfl, e, _⟩
  · exact dp_str_inv h
  · cases e
theorem dr_bl {B H : Hp} {v : V} {i : Bool} (h : Dr K B H v (.bool i)) : v = .bl i := by
  rcases h with h | ⟨p, xs, ds, rfl, e, _⟩
  · exact dp_bl_inv h
  · cases e
theorem dr_flat {B H : Hp} {v : V} {d : PyData} (f : flatD d = true) (h : Dr K B H v d) : v = valD d := by
  rcases h with h | ⟨p, xs, ds, rfl, e, _⟩
  · exact flat_val f h
  · subst e; cases f

/-! ### ints -/
theorem ev_I0 {g : Int → Int → Int} {Φ : Slot → List Slot → Prop} (h : EvS K ta δ fun s1 δ1 => EvS K tb δ1 fun s2 δ2 => ∃ i j, s1 = .pu (.int i) ∧ s2 = .pu (.int j) ∧ Φ (.pu (.int (g i j))) δ2) : EvS K (tOp (rI0 fun i j => .int (g i j)) ta tb) δ Φ :=
  ev_opP (h.imp fun s1 δ1 h1 => h1.imp fun s2 δ2 ⟨i, j, e1, e2, q⟩ => ⟨.int i, .int j, .int (g i j), .inl e1, .inl e2, opP_flat rfl fun B H u v Q e d1 d2 k => ⟨i, j, dr_int d1, dr_int d2, k⟩, q⟩)
theorem ev_I {C : Int → Int → Prop} {g : Int → Int → Int} {Φ : Slot → List Slot → Prop} (h : EvS K ta δ fun s1 δ1 => EvS K tb δ1 fun s2 δ2 => ∃ i j, s1 = .pu (.int i) ∧ s2 = .pu (.int j) ∧ C i j ∧ Φ (.pu (.int (g i j))) δ2) : EvS K (tOp (rI C fun i j => .int (g i j)) ta tb) δ Φ :=
  ev_opP (h.imp fun s1 δ1 h1 => h1.imp fun s2 δ2 ⟨i, j, e1, e2, c, q⟩ => ⟨.int i, .int j, .int (g i j), .inl e1, .inl e2, opP_flat rfl fun B H u v Q e d1 d2 k => ⟨i, j, dr_int d1, dr_int d2, c, k⟩, q⟩)
theorem ev_B0 {g : Int → Int → Bool} {Φ : Slot → List Slot → Prop} (h : EvS K ta δ fun s1 δ1 => EvS K tb δ1 fun s2 δ2 => ∃ i j, s1 = .pu (.int i) ∧ s2 = .pu (.int j) ∧ Φ (.pu (.bool (g i j))) δ2) : EvS K (tOp (rI0 fun i j => .bl (g i j)) ta tb) δ Φ :=
  ev_opP (h.imp fun s1 δ1 h1 => h1.imp fun s2 δ2 ⟨i, j, e1, e2, q⟩ => ⟨.int i, .int j, .bool (g i j), .inl e1, .inl e2, opP_flat rfl fun B H u v Q e d1 d2 k => ⟨i, j, dr_int d1, dr_int d2, k⟩, q⟩)
theorem ev_neg {g : Int → Int} {Φ : Slot → List Slot → Prop} (h : EvS K ta δ fun s1 δ1 => ∃ i, s1 = .pu (.int i) ∧ Φ (.pu (.int (g i))) δ1) : EvS K (tUn (rU fun i => .int (g i)) ta) δ Φ :=
  ev_unP (r := rU fun i => .int (g i)) (h.imp fun s1 δ1 ⟨i, e1, q⟩ => ⟨.int i, .int (g i), .inl e1, unP_flat rfl fun B H u Q e d1 k => ⟨i, dr_int d1, k⟩, q⟩)
/-! ### == of scalars -/
def eqF (x y : PyData) : Bool := decide (valD x = valD y)
theorem eqF_int (i j : Int) : eqF (.int i) (.int j) = decide (i = j) := by unfold eqF valD; simp
theorem eqF_str (i j : Str) : eqF (.str i) (.str j) = decide (i = j) := by unfold eqF valD; simp
def scF (x y : PyData) : Bool := flatD x && flatD y && scal (valD x) (valD y)
theorem ev_eq {Φ : Slot → List Slot → Prop} (h : EvS K ta δ fun s1 δ1 => EvS K tb δ1 fun s2 δ2 => ∃ x y, s1 = .pu x ∧ s2 = .pu y ∧ scF x y = true ∧ Φ (.pu (.bool (eqF x y))) δ2) : EvS K (tOp rEq ta tb) δ Φ :=
  ev_opP (h.imp fun s1 δ1 h1 => h1.imp fun s2 δ2 ⟨x, y, e1, e2, c, q⟩ => ⟨x, y, .bool (eqF x y), .inl e1, .inl e2, opP_flat rfl fun B H u v Q e d1 d2 k => by
    unfold scF at c
    rw [Bool.and_eq_true, Bool.and_eq_true] at c
    rw [dr_flat c.1.1 d1, dr_flat c.1.2 d2]
    exact ⟨c.2, k⟩, q⟩)
theorem ev_ne {Φ : Slot → List Slot → Prop} (h : EvS K ta δ fun s1 δ1 => EvS K tb δ1 fun s2 δ2 => ∃ x y, s1 = .pu x ∧ s2 = .pu y ∧ scF x y = true ∧ Φ (.pu (.bool (!eqF x y))) δ2) : EvS K (tOp rNe ta tb) δ Φ :=
  ev_opP (h.imp fun s1 δ1 h1 => h1.imp fun s2 δ2 ⟨x, y, e1, e2, c, q⟩ => ⟨x, y, .bool (!eqF x y), .inl e1, .inl e2, opP_flat rfl fun B H u v Q e d1 d2 k => by
    unfold scF at c
    rw [Bool.and_eq_true, Bool.and_eq_true] at c
    rw [dr_flat c.1.1 d1, dr_flat c.1.2 d2]
    exact ⟨c.2, k⟩, q⟩)
theorem ev_eqI {Φ : Slot → List Slot → Prop} (h : EvS K ta δ fun s1 δ1 => EvS K tb δ1 fun s2 δ2 => ∃ i j, s1 = .pu (.int i) ∧ s2 = .pu (.int j) ∧ Φ (.pu (.bool (decide (i = j)))) δ2) : EvS K (tOp rEq ta tb) δ Φ :=
  ev_eq (h.imp fun s1 δ1 h1 => h1.imp fun s2 δ2 ⟨i, j, e1, e2, q⟩ => ⟨_, _, e1, e2, rfl, by rw [eqF_int]; exact q⟩)
theorem ev_eqS {Φ : Slot → List Slot → Prop} (h : EvS K ta δ fun s1 δ1 => EvS K tb δ1 fun s2 δ2 => ∃ i j, s1 = .pu (.str i) ∧ s2 = .pu (.str j) ∧ Φ (.pu (.bool (decide (i = j)))) δ2) : EvS K (tOp rEq ta tb) δ Φ :=
  ev_eq (h.imp fun s1 δ1 h1 => h1.imp fun s2 δ2 ⟨i, j, e1, e2, q⟩ => ⟨_, _, e1, e2, rfl, by rw [eqF_str]; exact q⟩)
theorem ev_neI {Φ : Slot → List Slot → Prop} (h : EvS K ta δ fun s1 δ1 => EvS K tb δ1 fun s2 δ2 => ∃ i j, s1 = .pu (.int i) ∧ s2 = .pu (.int j) ∧ Φ (.pu (.bool (!decide (i = j)))) δ2) : EvS K (tOp rNe ta tb) δ Φ :=
  ev_ne (h.imp fun s1 δ1 h1 => h1.imp fun s2 δ2 ⟨i, j, e1, e2, q⟩ => ⟨_, _, e1, e2, rfl, by rw [eqF_int]; exact q⟩)
theorem ev_neS {Φ : Slot → List Slot → Prop} (h : EvS K ta δ fun s1 δ1 => EvS K tb δ1 fun s2 δ2 => ∃ i j, s1 = .pu (.str i) ∧ s2 = .pu (.str j) ∧ Φ (.pu (.bool (!decide (i = j)))) δ2) : EvS K (tOp rNe ta tb) δ Φ :=
  ev_ne (h.imp fun s1 δ1 h1 => h1.imp fun s2 δ2 ⟨i, j, e1, e2, q⟩ => ⟨_, _, e1, e2, rfl, by rw [eqF_str]; exact q⟩)
/-! ### deep == -/
theorem ev_eqD {Φ : Slot → List Slot → Prop} (h : EvS K ta δ fun s1 δ1 => EvS K tb δ1 fun s2 δ2 => ∃ x y, den K δ2 s1 x ∧ den K δ2 s2 y ∧ SeqAt.shaped x = true ∧ SeqAt.shaped y = true ∧ Φ (.pu (.bool (PyData.eqv x y))) δ2) : EvS K (tOp (rEqD K) ta tb) δ Φ :=
  ev_opP (h.imp fun s1 δ1 h1 => h1.imp fun s2 δ2 ⟨x, y, e1, e2, c1, c2, q⟩ => ⟨x, y, .bool (PyData.eqv x y), e1, e2, opP_flat rfl fun B H u v Q e d1 d2 k => ⟨x, y, d1.dp e, d2.dp e, c1, c2, k⟩, q⟩)
theorem ev_neD {Φ : Slot → List Slot → Prop} (h : EvS K ta δ fun s1 δ1 => EvS K tb δ1 fun s2 δ2 => ∃ x y, den K δ2 s1 x ∧ den K δ2 s2 y ∧ SeqAt.shaped x = true ∧ SeqAt.shaped y = true ∧ Φ (.pu (.bool (!PyData.eqv x y))) δ2) : EvS K (tOp (rNeD K) ta tb) δ Φ :=
  ev_opP (h.imp fun s1 δ1 h1 => h1.imp fun s2 δ2 ⟨x, y, e1, e2, c1, c2, q⟩ => ⟨x, y, .bool (!PyData.eqv x y), e1, e2, opP_flat rfl fun B H u v Q e d1 d2 k => ⟨x, y, d1.dp e, d2.dp e, c1, c2, k⟩, q⟩)
/-! ### in, is None -/
def memD (x : PyData) (ds : List PyData) : Bool := ds.any fun y => eqV (valD y) (valD x)
theorem inV_mem {H : Hp} {x : PyData} : ∀ {vs : List V} {ds : List PyData}, ds.all flatD = true → DpAll K H vs ds → inV (valD x) vs = memD x ds
  | _, _, _, .nil => rfl
  | _, d :: ds, f, .cons r t => by
    rw [List.all_cons, Bool.and_eq_true] at f
    unfold inV memD
    rw [List.any_cons, List.any_cons, flat_val f.1 r]
    have := inV_mem (x := x) f.2 t
    unfold inV memD at this
    rw [this]
theorem ev_in {neg : Bool} {Φ : Slot → List Slot → Prop} (h : EvS K ta δ fun s1 δ1 => EvS K tb δ1 fun s2 δ2 => ∃ x ds, s1 = .pu x ∧ (den K δ2 s2 (.list ds) ∨ den K δ2 s2 (.tuple ds)) ∧ flatD x = true ∧ ds.all flatD = true ∧ Φ (.pu (.bool (if neg then !memD x ds else memD x ds))) δ2) : EvS K (tOp (rIn K neg) ta tb) δ Φ :=
  ev_opP (h.imp fun s1 δ1 h1 => h1.imp fun s2 δ2 ⟨x, ds, e1, e2, c1, c2, q⟩ => by
    rcases e2 with e2 | e2
    · refine ⟨x, .list ds, .bool (if neg then !memD x ds else memD x ds), .inl e1, e2, opP_flat rfl fun B H u v Q e d1 d2 k => ?_, q⟩
      obtain ⟨p, xs, rfl, hs, ha⟩ := d2.lst e
      rw [dr_flat c1 d1]
      refine ⟨p, xs, rfl, .inl hs, flat_flat (H := B) c1 (dp_flat (K := K) c1), dpa_flat c2 ha, ?_⟩
      rw [inV_mem c2 ha]
      exact k
    · refine ⟨x, .tuple ds, .bool (if neg then !memD x ds else memD x ds), .inl e1, e2, opP_flat rfl fun B H u v Q e d1 d2 k => ?_, q⟩
      obtain ⟨p, xs, rfl, hs, ha⟩ := d2.tup e
      rw [dr_flat c1 d1]
      refine ⟨p, xs, rfl, .inr hs, flat_flat (H := B) c1 (dp_flat (K := K) c1), dpa_flat c2 ha, ?_⟩
      rw [inV_mem c2 ha]
      exact k)
theorem memD_int {i : Int} {ns : List Int} : memD (.int i) (ns.map PyData.int) = decide (i ∈ ns) := by
  induction ns with
  | nil => simp [memD]
  | cons n r ih =>
    have e : memD (.int i) ((n :: r).map PyData.int) = (eqV (.int n) (.int i) || memD (.int i) (r.map PyData.int)) := rfl
    rw [e, ih]
    by_cases h : n = i
    · subst h; simp [eqV]
    · have h' : ¬ i = n := fun z => h z.symm
      simp [eqV, h, h']
theorem memD_str {i : Str} {ns : List Str} : memD (.str i) (ns.map PyData.str) = decide (i ∈ ns) := by
  induction ns with
  | nil => simp [memD]
  | cons n r ih =>
    have e : memD (.str i) ((n :: r).map PyData.str) = (eqV (.str n) (.str i) || memD (.str i) (r.map PyData.str)) := rfl
    rw [e, ih]
    by_cases h : n = i
    · subst h; simp [eqV]
    · have h' : ¬ i = n := fun z => h z.symm
      simp [eqV, h, h']
theorem all_ints (ns : List Int) : (ns.map PyData.int).all flatD = true := by induction ns with | nil => rfl | cons n r ih => rw [List.map_cons, List.all_cons, ih]; rfl
theorem all_strs (ns : List Str) : (ns.map PyData.str).all flatD = true := by induction ns with | nil => rfl | cons n r ih => rw [List.map_cons, List.all_cons, ih]; rfl
theorem ev_inI {neg : Bool} {Φ : Slot → List Slot → Prop} (h : EvS K ta δ fun s1 δ1 => EvS K tb δ1 fun s2 δ2 => ∃ (i : Int) (ns : List Int), s1 = .pu (.int i) ∧ (den K δ2 s2 (.list (ns.map PyData.int)) ∨ den K δ2 s2 (.tuple (ns.map PyData.int))) ∧ Φ (.pu (.bool (if neg then !decide (i ∈ ns) else decide (i ∈ ns)))) δ2) : EvS K (tOp (rIn K neg) ta tb) δ Φ :=
  ev_in (h.imp fun s1 δ1 h1 => h1.imp fun s2 δ2 ⟨i, ns, e1, e2, q⟩ => ⟨_, _, e1, e2, rfl, all_ints ns, by rw [memD_int]; exact q⟩)
theorem ev_inS {neg : Bool} {Φ : Slot → List Slot → Prop} (h : EvS K ta δ fun s1 δ1 => EvS K tb δ1 fun s2 δ2 => ∃ (i : Str) (ns : List Str), s1 = .pu (.str i) ∧ (den K δ2 s2 (.list (ns.map PyData.str)) ∨ den K δ2 s2 (.tuple (ns.map PyData.str))) ∧ Φ (.pu (.bool (if neg then !decide (i ∈ ns) else decide (i ∈ ns)))) δ2) : EvS K (tOp (rIn K neg) ta tb) δ Φ :=
  ev_in (h.imp fun s1 δ1 h1 => h1.imp fun s2 δ2 ⟨i, ns, e1, e2, q⟩ => ⟨_, _, e1, e2, rfl, all_strs ns, by rw [memD_str]; exact q⟩)
def isNone : PyData → Bool | .none => true | _ => false
theorem isN_dr {B H : Hp} {v : V} {d : PyData} (h : Dr K B H v d) : decide (v = .non) = isNone d := by
  rcases h with h | ⟨p, xs, ds, rfl, rfl, _⟩
  · cases h <;> rfl
  · rfl
theorem ev_isN {Φ : Slot → List Slot → Prop} (h : EvS K ta δ fun s δ1 => ∃ x, den K δ1 s x ∧ Φ (.pu (.bool (isNone x))) δ1) : EvS K (tIsN ta) δ Φ :=
  ev_unP (r := fun x H1 Q => Q (.bl (decide (x = .non))) H1) (h.imp fun s δ1 ⟨x, e, q⟩ => ⟨x, .bool (isNone x), e, unP_flat rfl fun B H u Q e d k => by rw [isN_dr d]; exact k, q⟩)
theorem ev_notN {Φ : Slot → List Slot → Prop} (h : EvS K ta δ fun s δ1 => ∃ x, den K δ1 s x ∧ Φ (.pu (.bool (!isNone x))) δ1) : EvS K (tNotN ta) δ Φ :=
  ev_unP (r := fun x H1 Q => Q (.bl (!decide (x = .non))) H1) (h.imp fun s δ1 ⟨x, e, q⟩ => ⟨x, .bool (!isNone x), e, unP_flat rfl fun B H u Q e d k => by rw [isN_dr d]; exact k, q⟩)
/-! ### items -/
theorem atI_dpa {H : Hp} {vs : List V} {ds : List PyData} {i : Int} {d : PyData} (h : DpAll K H vs ds) (e : atI ds i = some d) : ∃ v, atI vs i = some v ∧ Dp K H v d := by
  unfold atI at e ⊢
  rw [dpa_len h]
  cases q : ixN ds.length i with
  | none => rw [q] at e; cases e
  | some j =>
    rw [q] at e
    exact dpa_get h e
theorem ev_ixL {Φ : Slot → List Slot → Prop} (h : EvS K ta δ fun s1 δ1 => EvS K tb δ1 fun s2 δ2 => ∃ ds i d, den K δ2 s1 (.list ds) ∧ s2 = .pu (.int i) ∧ atI ds i = some d ∧ Φ (.pu d) δ2) : EvS K (tOp (rIxL K) ta tb) δ Φ :=
  ev_opP (h.imp fun s1 δ1 h1 => h1.imp fun s2 δ2 ⟨ds, i, d, e1, e2, hi, q⟩ => ⟨.list ds, .int i, d, e1, .inl e2, fun B H u v Q e d1 d2 k => by
    obtain ⟨p, xs, rfl, hs, ha⟩ := d1.lst e
    obtain ⟨w, hw, hd⟩ := atI_dpa ha hi
    exact ⟨p, xs, i, w, rfl, dr_int d2, hs, hw, k w B H (Gr.refl e) hd⟩, q⟩)
theorem ev_ixT {Φ : Slot → List Slot → Prop} (h : EvS K ta δ fun s1 δ1 => EvS K tb δ1 fun s2 δ2 => ∃ ds i d, s1 = .pu (.tuple ds) ∧ s2 = .pu (.int i) ∧ atI ds i = some d ∧ Φ (.pu d) δ2) : EvS K (tOp (rIxT K) ta tb) δ Φ :=
  ev_opP (h.imp fun s1 δ1 h1 => h1.imp fun s2 δ2 ⟨ds, i, d, e1, e2, hi, q⟩ => ⟨.tuple ds, .int i, d, .inl e1, .inl e2, fun B H u v Q e d1 d2 k => by
    obtain ⟨p, xs, rfl, hs, ha⟩ := d1.tup e
    obtain ⟨w, hw, hd⟩ := atI_dpa ha hi
    exact ⟨p, xs, i, w, rfl, dr_int d2, hs, hw, k w B H (Gr.refl e) hd⟩, q⟩)
theorem atI_nat' {α : Type} {xs : List α} {i : Nat} {x : α} (h : xs[i]? = some x) : atI xs (i : Int) = some x := atI_nat h
/-! ### + of lists, tuples, texts; * -/
theorem ev_catA {Φ : Slot → List Slot → Prop} (h : EvS K ta δ fun s1 δ1 => EvS K tb δ1 fun s2 δ2 => ∃ xs ys, s1 = .pu (.tuple xs) ∧ s2 = .pu (.tuple ys) ∧ xs.length + ys.length ≤ 100000 ∧ Φ (.pu (.tuple (xs ++ ys))) δ2) : EvS K (tOp (rCatA K) ta tb) δ Φ :=
  ev_opP (h.imp fun s1 δ1 h1 => h1.imp fun s2 δ2 ⟨ds, es, e1, e2, hl, q⟩ => ⟨.tuple ds, .tuple es, .tuple (ds ++ es), .inl e1, .inl e2, fun B H u v Q e d1 d2 k => by
    obtain ⟨p, xs, rfl, hs, ha⟩ := d1.tup e
    obtain ⟨p2, ys, rfl, hs2, ha2⟩ := d2.tup e
    have l1 := dpa_len ha
    have l2 := dpa_len ha2
    refine ⟨p, p2, xs, ys, rfl, rfl, hs, hs2, Evl.sz_of (by omega), fun z => ?_, fun z1 z2 => ?_, fun z1 z2 q hq => ?_⟩
    · subst z
      cases ha
      rcases d2 with d2 | ⟨_, _, _, _, z, _⟩
      · exact k _ B H (Gr.refl e) d2
      · cases z
    · subst z2
      cases ha2
      rw [List.append_nil] at k
      rcases d1 with d1 | ⟨_, _, _, _, z, _⟩
      · exact k _ B H (Gr.refl e) d1
      · cases z
    · have g := Gr.new (o := .tup (xs ++ ys)) e hq
      exact k _ _ _ g (.tup (SqT.of upd_same) (dpa_mono g.b _ _ (dpa_append ha ha2))), q⟩)
theorem ev_addS {Φ : Slot → List Slot → Prop} (h : EvS K ta δ fun s1 δ1 => EvS K tb δ1 fun s2 δ2 => ∃ i j, s1 = .pu (.str i) ∧ s2 = .pu (.str j) ∧ i.length + j.length ≤ sizeLine ∧ Φ (.pu (.str (i ++ j))) δ2) : EvS K (tOp (fun x y H Q => ∃ i j, x = .str i ∧ y = .str j ∧ i.length + j.length ≤ sizeLine ∧ Q (.str (i ++ j)) H) ta tb) δ Φ :=
  ev_opP (h.imp fun s1 δ1 h1 => h1.imp fun s2 δ2 ⟨i, j, e1, e2, hl, q⟩ => ⟨.str i, .str j, .str (i ++ j), .inl e1, .inl e2, opP_flat rfl fun B H u v Q e d1 d2 k => ⟨i, j, dr_str d1, dr_str d2, hl, k⟩, q⟩)
/-! ### displays -/
theorem AOk.all {B H : Hp} {σ : L2.St} {ss : List Slot} {ds : List PyData} : ∀ {vs : List V} {M : Addr → Prop}, AOk K σ δ B H vs ss M → ss = ds.map Slot.pu → DpAll K B vs ds ∧ ∀ a, ¬ M a := by
  intro vs M h
  induction h generalizing ds with
  | nil => intro e; cases ds with
    | nil => exact ⟨.nil, fun _ z => z⟩
    | cons _ _ => cases e
  | cons h1 h2 h3 ih =>
    intro e
    cases ds with
    | nil => cases e
    | cons d ds =>
      rw [List.map_cons] at e
      injection e with e1 e2
      subst e1
      obtain ⟨a1, a2⟩ := ih e2
      exact ⟨.cons h1.1 a1, fun a z => z.elim (h1.2 a) (a2 a)⟩
/-- arguments, each to data that stays -/
def EvDs (K : PySem.W.Frag) (ta : TA) (δ : List Slot) (Φ : List PyData → List Slot → Prop) : Prop :=
  ∀ (B H : Hp) (σ : L2.St) (F : Addr → Prop) (Q : List V → Hp → Prop), Sd K B H σ δ F →
    (∀ vs ds B2 H2 δ2, Ex B B2 → (∀ a, F a → H2 a = H a) → Sd K B2 H2 σ δ2 F → DpAll K B2 vs ds → Φ ds δ2 → Q vs H2) → ta σ H Q
theorem eds_nil {Φ : List PyData → List Slot → Prop} (h : Φ [] δ) : EvDs K tNil δ Φ := fun B H σ F Q S k => k [] [] B H δ (Ex.refl _) (fun _ _ => rfl) S .nil h
theorem eds_cons {tr : TA} {Φ : List PyData → List Slot → Prop} (h : EvS K ta δ fun s δ1 => ∃ d, frz K s d ∧ EvDs K tr δ1 fun ds δ2 => Φ (d :: ds) δ2) : EvDs K (tCons ta tr) δ Φ := fun B H σ F Q S k =>
  ed_of (Φ := fun d δ1 => EvDs K tr δ1 fun ds δ2 => Φ (d :: ds) δ2) h B H σ F _ S fun v d B1 H1 δ1 e1 f1 S1 hd p1 => p1 B1 H1 σ F _ S1 fun vs ds B2 H2 δ2 e2 f2 S2 ha p2 =>
    k (v :: vs) (d :: ds) B2 H2 δ2 (e1.trans e2) (fun a z => (f2 a z).trans (f1 a z)) S2 (.cons (dp_mono e2 _ _ hd) ha) p2
theorem ev_tup {t : TA} {Φ : Slot → List Slot → Prop} (h : EvDs K t δ fun ds δ1 => ds.length ≤ 100000 ∧ Φ (.pu (.tuple ds)) δ1) : EvS K (tTup t) δ Φ := fun B H σ F Q S k =>
  h B H σ F _ S fun vs ds B1 H1 δ1 e1 f1 S1 ha ⟨hl, q⟩ => ⟨Evl.sz_of (by rw [dpa_len ha]; exact hl), fun p hp => by
    have g := Gr.new (o := .tup vs) S1.bh hp
    exact k _ (fun _ => False) (.pu (.tuple ds)) _ _ δ1 (e1.trans g.b) (fun a z => by rw [ex_eq g.h (S1.fl a z), f1 a z]) ((S1.grow g).less fun a z => z.elim id False.elim) ⟨.tup (SqT.of upd_same) (dpa_mono g.b _ _ ha), fun _ z => z⟩ (fun _ z => z.elim) q⟩
theorem ev_lst {t : TA} {Φ : Slot → List Slot → Prop} (h : EvDs K t δ fun ds δ1 => ds.length ≤ 100000 ∧ Φ (.ow (RL K ds)) δ1) : EvS K (tLst t) δ Φ := fun B H σ F Q S k =>
  h B H σ F _ S fun vs ds B1 H1 δ1 e1 f1 S1 ha ⟨hl, q⟩ => ⟨Evl.sz_of (by rw [dpa_len ha]; exact hl), fun p hp => by
    refine k (.ref p) (fun a => a = p) (.ow (RL K ds)) B1 _ δ1 e1 (fun a z => ?_) (sd_own S1 hp) (rl_new ha) (fun a z f => ?_) q
    · rw [upd_ne (fun z2 => S1.fl a z (by rw [z2]; exact hp)), f1 a z]
    · rw [z] at f; exact S1.fl p f hp⟩
/-! ### and, or, not, if -/
theorem ev_andV {Φ : Slot → List Slot → Prop} (h : EvS K ta δ fun s δ1 => ∃ c, s = .pu (.bool c) ∧ if c = true then EvS K tb δ1 Φ else Φ (.pu (.bool false)) δ1) : EvS K (tAndV ta tb) δ Φ := fun B H σ F Q S k =>
  h B H σ F _ S fun v M s B1 H1 δ1 e1 f1 S1 w n ⟨c, es, p⟩ => by
    subst es
    refine ⟨c, dp_bl_inv w.1, ?_⟩
    have S1' : Sd K B1 H1 σ δ1 F := S1.less fun a z => .inl z
    cases c with
    | true =>
      rw [if_pos rfl] at p ⊢
      exact p B1 H1 σ F Q S1' fun v M s B2 H2 δ2 e2 f2 S2 w n q => k v M s B2 H2 δ2 (e1.trans e2) (fun a z => (f2 a z).trans (f1 a z)) S2 w n q
    | false =>
      rw [if_neg Bool.false_ne_true] at p ⊢
      exact k _ (fun _ => False) (.pu (.bool false)) B1 H1 δ1 e1 f1 (S1'.less fun a z => z.elim id False.elim) ⟨.bl false, fun _ z => z⟩ (fun _ z => z.elim) p
theorem ev_orV {Φ : Slot → List Slot → Prop} (h : EvS K ta δ fun s δ1 => ∃ c, s = .pu (.bool c) ∧ if c = true then Φ (.pu (.bool true)) δ1 else EvS K tb δ1 Φ) : EvS K (tOrV ta tb) δ Φ := fun B H σ F Q S k =>
  h B H σ F _ S fun v M s B1 H1 δ1 e1 f1 S1 w n ⟨c, es, p⟩ => by
    subst es
    refine ⟨c, dp_bl_inv w.1, ?_⟩
    have S1' : Sd K B1 H1 σ δ1 F := S1.less fun a z => .inl z
    cases c with
    | false =>
      rw [if_neg Bool.false_ne_true] at p ⊢
      exact p B1 H1 σ F Q S1' fun v M s B2 H2 δ2 e2 f2 S2 w n q => k v M s B2 H2 δ2 (e1.trans e2) (fun a z => (f2 a z).trans (f1 a z)) S2 w n q
    | true =>
      rw [if_pos rfl] at p ⊢
      exact k _ (fun _ => False) (.pu (.bool true)) B1 H1 δ1 e1 f1 (S1'.less fun a z => z.elim id False.elim) ⟨.bl true, fun _ z => z⟩ (fun _ z => z.elim) p
theorem ev_notV {Φ : Slot → List Slot → Prop} (h : EvS K ta δ fun s δ1 => ∃ c, s = .pu (.bool c) ∧ Φ (.pu (.bool (!c))) δ1) : EvS K (tNotV ta) δ Φ :=
  ev_unP (r := fun x H1 Q => ∃ c, x = .bl c ∧ Q (.bl (!c)) H1) (h.imp fun s δ1 ⟨c, e, q⟩ => ⟨.bool c, .bool (!c), .inl e, unP_flat rfl fun B H u Q e d k => ⟨c, dr_bl d, k⟩, q⟩)
theorem ev_if {Φ : Slot → List Slot → Prop} (h : EvT K tt δ fun c δ1 => if c = true then EvS K ta δ1 Φ else EvS K tb δ1 Φ) : EvS K (tIf tt ta tb) δ Φ := fun B H σ F Q S k =>
  h B H σ F _ S fun c B1 H1 δ1 e1 f1 S1 p => by
    cases c with
    | true =>
      rw [if_pos rfl] at p ⊢
      exact p B1 H1 σ F Q S1 fun v M s B2 H2 δ2 e2 f2 S2 w n q => k v M s B2 H2 δ2 (e1.trans e2) (fun a z => (f2 a z).trans (f1 a z)) S2 w n q
    | false =>
      rw [if_neg Bool.false_ne_true] at p ⊢
      exact p B1 H1 σ F Q S1 fun v M s B2 H2 δ2 e2 f2 S2 w n q => k v M s B2 H2 δ2 (e1.trans e2) (fun a z => (f2 a z).trans (f1 a z)) S2 w n q
/-! ### tests -/
theorem et_B {Φ : Bool → List Slot → Prop} (h : EvS K te δ fun s δ1 => ∃ c, s = .pu (.bool c) ∧ Φ c δ1) : EvT K (tB te) δ Φ := fun B H σ F Q S k =>
  h B H σ F _ S fun v M s B1 H1 δ1 e1 f1 S1 w n ⟨c, es, p⟩ => by
    subst es
    exact ⟨c, dp_bl_inv w.1, k c B1 H1 δ1 e1 f1 (S1.less fun a z => .inl z) p⟩
theorem et_test {Φ : Bool → List Slot → Prop} (h : EvS K te δ fun s δ1 => ∃ c, s = .pu (.bool c) ∧ Φ c δ1) : EvT K (tTest te) δ Φ := et_B h
theorem et_and {Φ : Bool → List Slot → Prop} (h : EvT K tt δ fun c δ1 => if c = true then EvT K tu δ1 Φ else Φ false δ1) : EvT K (tAnd tt tu) δ Φ := fun B H σ F Q S k =>
  h B H σ F _ S fun c B1 H1 δ1 e1 f1 S1 p => by
    cases c with
    | true =>
      rw [if_pos rfl] at p ⊢
      exact p B1 H1 σ F Q S1 fun b B2 H2 δ2 e2 f2 S2 q => k b B2 H2 δ2 (e1.trans e2) (fun a z => (f2 a z).trans (f1 a z)) S2 q
    | false =>
      rw [if_neg Bool.false_ne_true] at p ⊢
      exact k false B1 H1 δ1 e1 f1 S1 p
theorem et_or {Φ : Bool → List Slot → Prop} (h : EvT K tt δ fun c δ1 => if c = true then Φ true δ1 else EvT K tu δ1 Φ) : EvT K (tOr tt tu) δ Φ := fun B H σ F Q S k =>
  h B H σ F _ S fun c B1 H1 δ1 e1 f1 S1 p => by
    cases c with
    | false =>
      rw [if_neg Bool.false_ne_true] at p ⊢
      exact p B1 H1 σ F Q S1 fun b B2 H2 δ2 e2 f2 S2 q => k b B2 H2 δ2 (e1.trans e2) (fun a z => (f2 a z).trans (f1 a z)) S2 q
    | true =>
      rw [if_pos rfl] at p ⊢
      exact k true B1 H1 δ1 e1 f1 S1 p
theorem et_not {Φ : Bool → List Slot → Prop} (h : EvT K tt δ fun c δ1 => Φ (!c) δ1) : EvT K (tNot tt) δ Φ := fun B H σ F Q S k =>
  h B H σ F _ S fun c B1 H1 δ1 e1 f1 S1 p => k (!c) B1 H1 δ1 e1 f1 S1 p
/-- a chain of two comparisons of ints -/
theorem ev_chain {g g' : Int → Int → Bool} {Φ : Slot → List Slot → Prop} (h : EvS K ta δ fun s1 δ1 => EvS K tb δ1 fun s2 δ2 => ∃ i j, s1 = .pu (.int i) ∧ s2 = .pu (.int j) ∧ if g i j = true then EvS K tc δ2 (fun s3 δ3 => ∃ k, s3 = .pu (.int k) ∧ Φ (.pu (.bool (g' j k))) δ3) else Φ (.pu (.bool false)) δ2) :
    EvS K (tChain (rI0 fun i j => .bl (g i j)) (rI0 fun i j => .bl (g' i j)) ta tb tc) δ Φ := fun B H σ F Q S k =>
  h B H σ F _ S fun v1 M1 s1 B1 H1 δ1 e1 f1 S1 w1 n1 p1 => p1 B1 H1 σ _ _ S1 fun v2 M2 s2 B2 H2 δ2 e2 f2 S2 w2 n2 ⟨i, j, es1, es2, p⟩ => by
    subst es1 es2
    refine ⟨i, j, dp_int_inv w1.1, dp_int_inv w2.1, _, rfl, ?_⟩
    have S2' : Sd K B2 H2 σ δ2 F := S2.less fun a z => .inl (.inl z)
    have f2' : ∀ a, F a → H2 a = H a := fun a z => (f2 a (.inl z)).trans (f1 a z)
    by_cases hc : g i j = true
    · rw [if_pos hc] at p ⊢
      refine p B2 H2 σ F _ S2' fun v3 M3 s3 B3 H3 δ3 e3 f3 S3 w3 n3 ⟨l, es3, q⟩ => ?_
      subst es3
      exact ⟨j, l, dp_int_inv w2.1, dp_int_inv w3.1, k _ (fun _ => False) (.pu (.bool _)) B3 H3 δ3 ((e1.trans e2).trans e3) (fun a z => (f3 a z).trans (f2' a z)) (S3.less fun a z => z.elim .inl False.elim) ⟨.bl _, fun _ z => z⟩ (fun _ z => z.elim) q⟩
    · rw [if_neg hc] at p ⊢
      exact k _ (fun _ => False) (.pu (.bool _)) B2 H2 δ2 (e1.trans e2) f2' (S2'.less fun a z => z.elim id False.elim) ⟨.bl _, fun _ z => z⟩ (fun _ z => z.elim) p
end
end Dl

namespace Dl
open PySem PySem.Spec PyProof.Rows L2
open Evl (Ex)
/-! ### statements -/
structure Dn where
  nx : List Slot → Prop
  rt : Slot → List Slot → Prop
  bk : List Slot → Prop := fun _ => False
  ct : List Slot → Prop := fun _ => False
/-- what follows, lifted -/
structure Lift (K : PySem.W.Frag) (B H : Hp) (F : Addr → Prop) (Dn : Dn) (D : Ends) : Prop where
  nx : ∀ B2 H2 σ2 δ2, Ex B B2 → (∀ a, F a → H2 a = H a) → Sd K B2 H2 σ2 δ2 F → Dn.nx δ2 → D.nx σ2 H2
  bk : ∀ B2 H2 σ2 δ2, Ex B B2 → (∀ a, F a → H2 a = H a) → Sd K B2 H2 σ2 δ2 F → Dn.bk δ2 → D.bk σ2 H2
  ct : ∀ B2 H2 σ2 δ2, Ex B B2 → (∀ a, F a → H2 a = H a) → Sd K B2 H2 σ2 δ2 F → Dn.ct δ2 → D.ct σ2 H2
  rt : ∀ v M s B2 H2 σ2 δ2, Ex B B2 → (∀ a, F a → H2 a = H a) → Sd K B2 H2 σ2 δ2 (fun a => F a ∨ M a) → VOk K σ2 δ2 B2 H2 v M s → (∀ a, M a → ¬ F a) → Dn.rt s δ2 → D.rt v H2
def ExS (K : PySem.W.Frag) (t : TS) (d : Dn) (δ : List Slot) : Prop :=
  ∀ (B H : Hp) (σ : L2.St) (F : Addr → Prop) (D : Ends), Sd K B H σ δ F → Lift K B H F d D → t D σ H
theorem Lift.step {K : PySem.W.Frag} {B H B2 H2 : Hp} {F : Addr → Prop} {d : Dn} {D : Ends} (L : Lift K B H F d D) (e : Ex B B2) (f : ∀ a, F a → H2 a = H a) : Lift K B2 H2 F d D :=
  ⟨fun B3 H3 σ2 δ2 e2 f2 S h => L.nx B3 H3 σ2 δ2 (e.trans e2) (fun a z => (f2 a z).trans (f a z)) S h, fun B3 H3 σ2 δ2 e2 f2 S h => L.bk B3 H3 σ2 δ2 (e.trans e2) (fun a z => (f2 a z).trans (f a z)) S h,
   fun B3 H3 σ2 δ2 e2 f2 S h => L.ct B3 H3 σ2 δ2 (e.trans e2) (fun a z => (f2 a z).trans (f a z)) S h, fun v M s B3 H3 σ2 δ2 e2 f2 S w n h => L.rt v M s B3 H3 σ2 δ2 (e.trans e2) (fun a z => (f2 a z).trans (f a z)) S w n h⟩
section
variable {K : PySem.W.Frag} {δ : List Slot} {te ta tb tc : TE} {tt : TT} {t u : TS} {d : Dn}
theorem xs_seq (h : ExS K t { d with nx := ExS K u d } δ) : ExS K (tSeq t u) d δ := fun B H σ F D S L =>
  h B H σ F _ S ⟨fun B2 H2 σ2 δ2 e f S2 p => p B2 H2 σ2 F D S2 (L.step e f), L.bk, L.ct, L.rt⟩
theorem xs_next (h : d.nx δ) : ExS K tNext d δ := fun B H σ F D S L => L.nx B H σ δ (Ex.refl _) (fun _ _ => rfl) S h
theorem xs_break (h : d.bk δ) : ExS K tBreak d δ := fun B H σ F D S L => L.bk B H σ δ (Ex.refl _) (fun _ _ => rfl) S h
theorem xs_cont (h : d.ct δ) : ExS K tCont d δ := fun B H σ F D S L => L.ct B H σ δ (Ex.refl _) (fun _ _ => rfl) S h
theorem xs_ret (h : EvS K te δ d.rt) : ExS K (tRet te) d δ := fun B H σ F D S L => h B H σ F _ S fun v M s B2 H2 δ2 e f S2 w n p => L.rt v M s B2 H2 σ δ2 e f S2 w n p
theorem xs_retN (h : d.rt (.pu .none) δ) : ExS K tRetN d δ := fun B H σ F D S L => L.rt .non (fun _ => False) (.pu .none) B H σ δ (Ex.refl _) (fun _ _ => rfl) (S.less fun a z => z.elim id False.elim) ⟨.non, fun _ z => z⟩ (fun _ z => z.elim) h
theorem xs_drop (h : EvS K te δ fun _ δ1 => d.nx δ1) : ExS K (tDrop te) d δ := fun B H σ F D S L => h B H σ F _ S fun v M s B2 H2 δ2 e f S2 w n p => L.nx B2 H2 σ δ2 e f (S2.less fun a z => .inl z) p
theorem xs_if (h : EvT K tt δ fun b δ1 => if b = true then ExS K t d δ1 else ExS K u d δ1) : ExS K (tIfS tt t u) d δ := fun B H σ F D S L =>
  h B H σ F _ S fun b B2 H2 δ2 e f S2 p => by
    cases b with
    | true =>
      rw [if_pos rfl] at p ⊢
      exact p B2 H2 σ F D S2 (L.step e f)
    | false =>
      rw [if_neg Bool.false_ne_true] at p ⊢
      exact p B2 H2 σ F D S2 (L.step e f)
theorem Sd.move {B H : Hp} {σ : L2.St} {F : Addr → Prop} {i j : Nat} {R : Res} {v : V} (S : Sd K B H σ δ F) (hj : δ[j]? = some (.ow R)) (hv : σ[j]? = some (some v)) (hi : i < δ.length) : Sd K B H (σ.set i (some v)) ((δ.set j .non).set i (.ow R)) F := by
  obtain ⟨ms, h1, h2, h3, h4⟩ := S.sl
  have hjl : j < δ.length := (List.getElem?_eq_some_iff.mp hj).1
  obtain ⟨v', e', hP, hb⟩ := h1 j _ hj
  rw [hv] at e'
  cases e'
  have S1 : Sd K B H σ (δ.set j .non) fun a => F a ∨ ms j a := by
    refine ⟨S.bh, by simp [S.len], fun a z => z.elim (S.fb a) (hb a), fun a z => z.elim (S.fl a) (R.live hP a), updM ms j (fun _ => False), fun l s hs => ?_, fun l l2 a q1 q2 => ?_, fun l a q z => ?_, fun l a q => ?_⟩
    · by_cases e : l = j
      · subst e
        rw [List.getElem?_set_self hjl] at hs
        cases hs
        rw [updM_eq rfl]
        exact fun _ z => z
      · rw [List.getElem?_set_ne (Ne.symm e)] at hs
        rw [updM_ne e]
        exact h1 l s hs
    · by_cases e : l = j
      · rw [updM_eq e] at q1; exact q1.elim
      · by_cases e2 : l2 = j
        · rw [updM_eq e2] at q2; exact q2.elim
        · rw [updM_ne e] at q1
          rw [updM_ne e2] at q2
          exact h2 l l2 a q1 q2
    · by_cases e : l = j
      · rw [updM_eq e] at q; exact q
      · rw [updM_ne e] at q
        exact z.elim (h3 l a q) fun z => e (h2 l j a q z)
    · rw [List.length_set]
      by_cases e : l = j
      · rw [updM_eq e] at q; exact q.elim
      · rw [updM_ne e] at q; exact h4 l a q
  exact S1.put_ow hP (fun a q f => h3 j a q f) (by rw [List.length_set]; exact hi)
/-- what a name holds behind a store -/
def asn (i : Nat) (s : Slot) (δ δ2 : List Slot) : Prop := match s with
  | .pu d => δ2 = δ.set i (.pu d)
  | .ow R => δ2 = δ.set i (.ow R)
  | .al j => ∃ R, δ[j]? = some (.ow R) ∧ δ2 = (δ.set j .non).set i (.ow R)
  | .non => False
theorem xs_asg {i : Nat} (h : EvS K te δ fun s δ1 => i < δ1.length ∧ ∃ δ2, asn i s δ1 δ2 ∧ d.nx δ2) : ExS K (tAsg te (gName i)) d δ := fun B H σ F D S L =>
  h B H σ F _ S fun v M s B2 H2 δ1 e f S2 w n ⟨hi, δ2, ha, p⟩ => by
    cases s with
    | non => exact ha.elim
    | pu x =>
      obtain rfl : δ2 = _ := ha
      exact L.nx B2 H2 _ _ e f ((S2.less fun a z => .inl z).put_pu w.1 hi) p
    | ow R =>
      obtain rfl : δ2 = _ := ha
      exact L.nx B2 H2 _ _ e f (S2.put_ow w n hi) p
    | al j =>
      obtain ⟨R, hj, rfl⟩ := ha
      exact L.nx B2 H2 _ _ e f ((S2.less fun a z => .inl z).move hj w.1 hi) p
/-! ### targets of loops -/
def setV (σ : L2.St) : List Nat → List V → L2.St
  | j :: js, u :: us => setV (σ.set j (some u)) js us
  | _, _ => σ
def setD (δ : List Slot) : List (Nat × PyData) → List Slot
  | [] => δ
  | p :: ps => setD (δ.set p.1 (.pu p.2)) ps
theorem setV_len : ∀ {js : List Nat} {us : List V} {σ : L2.St}, (setV σ js us).length = σ.length
  | [], _, _ => by cases ‹List V› <;> rfl
  | _ :: _, [], _ => rfl
  | j :: js, u :: us, σ => by
    show (setV (σ.set j (some u)) js us).length = σ.length
    rw [setV_len, List.length_set]
theorem setV_out {i : Nat} : ∀ {js : List Nat} {us : List V} {σ : L2.St}, i ∉ js → (setV σ js us)[i]? = σ[i]?
  | [], us, _, _ => by cases us <;> rfl
  | _ :: _, [], _, _ => rfl
  | j :: js, u :: us, σ, h => by
    show (setV (σ.set j (some u)) js us)[i]? = σ[i]?
    rw [setV_out fun z => h (List.mem_cons_of_mem _ z), List.getElem?_set_ne (fun z => h (by rw [z]; exact List.mem_cons_self ..))]
theorem setD_len : ∀ {as : List (Nat × PyData)} {δ : List Slot}, (setD δ as).length = δ.length
  | [], _ => rfl
  | p :: ps, δ => by
    show (setD (δ.set p.1 (.pu p.2)) ps).length = δ.length
    rw [setD_len, List.length_set]
theorem setD_out {i : Nat} : ∀ {as : List (Nat × PyData)} {δ : List Slot}, i ∉ as.map (·.1) → (setD δ as)[i]? = δ[i]?
  | [], _, _ => rfl
  | p :: ps, δ, h => by
    show (setD (δ.set p.1 (.pu p.2)) ps)[i]? = δ[i]?
    rw [setD_out fun z => h (List.mem_cons_of_mem _ z), List.getElem?_set_ne (fun z => h (List.mem_map.mpr ⟨p, List.mem_cons_self .., z⟩))]
theorem Sd.puts {B H : Hp} {F : Addr → Prop} : ∀ {as : List (Nat × PyData)} {us : List V} {σ : L2.St} {δ : List Slot}, Sd K B H σ δ F → DpAll K B us (as.map (·.2)) → (∀ p ∈ as, p.1 < δ.length) → Sd K B H (setV σ (as.map (·.1)) us) (setD δ as) F
  | [], us, σ, δ, S, h, _ => by cases h; exact S
  | p :: ps, us, σ, δ, S, h, hl => by
    cases h with
    | @cons u0 ur _ _ r t =>
      show Sd K B H (setV (σ.set p.1 (some u0)) (ps.map (·.1)) ur) (setD (δ.set p.1 (.pu p.2)) ps) F
      exact Sd.puts (S.put_pu r (hl p (List.mem_cons_self ..))) t fun q hq => by rw [List.length_set]; exact hl q (List.mem_cons_of_mem _ hq)
/-- the target g takes the datum d: the names of as are set -/
def TgS (K : PySem.W.Frag) (g : TG) (x : PyData) (as : List (Nat × PyData)) : Prop := ∀ (B H : Hp) (v : V) (σ : L2.St) (Q : L2.St → Hp → Prop), Ex B H → Dp K B v x → (∀ us, DpAll K B us (as.map (·.2)) → Q (setV σ (as.map (·.1)) us) H) → g v σ H Q
theorem tg_name {j : Nat} {x : PyData} : TgS K (gName j) x [(j, x)] := fun B H v σ Q e h k => k [v] (.cons h .nil)
theorem tg_tup2 {a b : Nat} {x y : PyData} : TgS K (gTup K 2 (gCons (gName a) (gCons (gName b) gNil))) (.tuple [x, y]) [(a, x), (b, y)] := fun B H v σ Q e h k => by
  cases h with
  | tup hs ha =>
    cases ha with
    | cons h1 ha =>
      cases ha with
      | cons h2 ha =>
        cases ha
        exact ⟨_, _, rfl, Evl.ex_t e hs, rfl, _, _, rfl, _, _, rfl, rfl, k [_, _] (.cons h1 (.cons h2 .nil))⟩
theorem tg_tup3 {a b c : Nat} {x y z : PyData} : TgS K (gTup K 3 (gCons (gName a) (gCons (gName b) (gCons (gName c) gNil)))) (.tuple [x, y, z]) [(a, x), (b, y), (c, z)] := fun B H v σ Q e h k => by
  cases h with
  | tup hs ha =>
    cases ha with
    | cons h1 ha =>
      cases ha with
      | cons h2 ha =>
        cases ha with
        | cons h3 ha =>
          cases ha
          exact ⟨_, _, rfl, Evl.ex_t e hs, rfl, _, _, rfl, _, _, rfl, _, _, rfl, rfl, k [_, _, _] (.cons h1 (.cons h2 (.cons h3 .nil)))⟩
/-- a, b = e -/
theorem xs_unpack {g : TG} (h : EvD K te δ fun x δ1 => ∃ as, TgS K g x as ∧ (∀ p ∈ as, p.1 < δ1.length) ∧ d.nx (setD δ1 as)) : ExS K (tAsg te g) d δ := fun B H σ F D S L =>
  h B H σ F _ S fun v x B2 H2 δ1 e f S2 hd ⟨as, hg, hl, p⟩ => hg B2 H2 v σ _ S2.bh hd fun us hu => L.nx B2 H2 _ _ e f (S2.puts hu hl) p
/-! ### loops -/
/-- a turn's target and body -/
def Turn1 (K : PySem.W.Frag) (g : TG) (t : TS) (d : Dn) (x : PyData) (nxt : List Slot → Prop) (δ : List Slot) : Prop :=
  ∃ as, TgS K g x as ∧ (∀ p ∈ as, p.1 < δ.length) ∧ ExS K t { d with nx := nxt, ct := nxt, bk := d.nx } (setD δ as)
theorem turn1 {g : TG} {x : PyData} {as : List (Nat × PyData)} {nxt : List Slot → Prop} (hg : TgS K g x as) (hl : ∀ p ∈ as, p.1 < δ.length) (h : ExS K t { d with nx := nxt, ct := nxt, bk := d.nx } (setD δ as)) : Turn1 K g t d x nxt δ := ⟨as, hg, hl, h⟩
theorem turn1_name {j : Nat} {x : PyData} {nxt : List Slot → Prop} (hj : j < δ.length) (h : ExS K t { d with nx := nxt, ct := nxt, bk := d.nx } (δ.set j (.pu x))) : Turn1 K (gName j) t d x nxt δ :=
  ⟨[(j, x)], tg_name, fun p hp => by rw [List.mem_singleton.mp hp]; exact hj, h⟩
theorem for_core {n : Nat} {item : Nat → PyData} {g : TG} {J : It} {B H : Hp} {σ : L2.St} {F : Addr → Prop} {D : Ends} (Pv : Nat → List Slot → Prop) (S : Sd K B H σ δ F) (F0 : Addr → Prop) (hF : ∀ a, F0 a → F a) (L : Lift K B H F0 d D) (h0 : Pv 0 δ)
    (hgo : ∀ i, i < n → ∀ B' H' σ' δ', Ex B B' → (∀ a, F a → H' a = H a) → Sd K B' H' σ' δ' F → Pv i δ' → J.go i H' ∧ ∀ x H2, J.yld i H' x H2 → ∃ B2, Gr B' H' B2 H2 ∧ Dp K B2 x (item i))
    (hst : ∀ B' H' σ' δ', Ex B B' → (∀ a, F a → H' a = H a) → Sd K B' H' σ' δ' F → Pv n δ' → J.stop n H')
    (hs : ∀ i δ', i < n → Pv i δ' → Turn1 K g t d (item i) (Pv (i + 1)) δ') (hd : ∀ δ', Pv n δ' → d.nx δ') :
    ∃ W : Nat → Nat → L2.St → Hp → Prop, (∃ m, W 0 m σ H) ∧ ∀ i m σ H, W i m σ H →
      (J.stop i H ∧ D.nx σ H) ∨ (J.go i H ∧ ∃ N : L2.St → Hp → Prop, (∀ σ' H', N σ' H' → ∃ m', m' < m ∧ W (i + 1) m' σ' H') ∧ ∀ x H', J.yld i H x H' → g x σ H' fun σ2 H2 => t { D with nx := N, ct := N, bk := D.nx } σ2 H2) := by
  refine ⟨fun i m σ' H' => m = n - i ∧ i ≤ n ∧ ∃ B' δ', Ex B B' ∧ (∀ a, F a → H' a = H a) ∧ Sd K B' H' σ' δ' F ∧ Pv i δ', ⟨n, rfl, Nat.zero_le _, B, δ, Ex.refl _, fun _ _ => rfl, S, h0⟩, ?_⟩
  rintro i m σ' H' ⟨rfl, hi, B', δ', e, f, S', p⟩
  by_cases hlt : i < n
  · obtain ⟨g1, g2⟩ := hgo i hlt B' H' σ' δ' e f S' p
    refine .inr ⟨g1, fun σ2 H2 => ∃ B2 δ2, Ex B B2 ∧ (∀ a, F a → H2 a = H a) ∧ Sd K B2 H2 σ2 δ2 F ∧ Pv (i + 1) δ2, fun σ2 H2 ⟨B2, δ2, q⟩ => ⟨n - (i + 1), by omega, rfl, hlt, B2, δ2, q⟩, fun x H2 hy => ?_⟩
    obtain ⟨B2, gr, hx⟩ := g2 x H2 hy
    obtain ⟨as, hg, hl, hb⟩ := hs i δ' hlt p
    have S2 := S'.grow gr
    have f2 : ∀ a, F a → H2 a = H a := fun a z => (ex_eq gr.h (S'.fl a z)).trans (f a z)
    refine hg B2 H2 x σ' _ S2.bh hx fun us hu => ?_
    refine hb B2 H2 _ F _ (S2.puts hu hl) ⟨fun B3 H3 σ3 δ3 e3 f3 S3 q => ⟨B3, δ3, (e.trans gr.b).trans e3, fun a z => (f3 a z).trans (f2 a z), S3, q⟩, fun B3 H3 σ3 δ3 e3 f3 S3 q => ?_,
      fun B3 H3 σ3 δ3 e3 f3 S3 q => ⟨B3, δ3, (e.trans gr.b).trans e3, fun a z => (f3 a z).trans (f2 a z), S3, q⟩, fun v M s B3 H3 σ3 δ3 e3 f3 S3 w n q => ?_⟩
    · exact L.nx B3 H3 σ3 δ3 ((e.trans gr.b).trans e3) (fun a z => (f3 a (hF a z)).trans (f2 a (hF a z))) (S3.less hF) q
    · exact L.rt v M s B3 H3 σ3 δ3 ((e.trans gr.b).trans e3) (fun a z => (f3 a (hF a z)).trans (f2 a (hF a z))) (S3.less fun a z => z.elim (fun z => .inl (hF a z)) .inr) w (fun a z z2 => n a z (hF a z2)) q
  · have e1 : i = n := by omega
    subst e1
    exact .inl ⟨hst B' H' σ' δ' e f S' p, L.nx B' H' σ' δ' e (fun a z => f a (hF a z)) (S'.less hF) (hd δ' p)⟩
theorem xs_forR1 {g : TG} (h : EvS K ta δ fun s δ1 => ∃ k : Int, s = .pu (.int k) ∧ -(2 ^ 62) ≤ k ∧ k < 2 ^ 62 ∧ ∃ Pv : Nat → List Slot → Prop, Pv 0 δ1 ∧ (∀ (i : Nat) δ', i < k.toNat → Pv i δ' → Turn1 K g t d (.int (i : Int)) (Pv (i + 1)) δ') ∧ ∀ δ', Pv k.toNat δ' → d.nx δ') : ExS K (tFor (iRng1 (tCons ta tNil)) g t) d δ := fun B H σ F D S L =>
  h B H σ F _ S fun v M s B2 H2 δ1 e f S2 w n ⟨k, es, hk1, hk2, Pv, h0, hs, hd⟩ => by
    subst es
    refine ⟨k, by rw [dp_int_inv w.1], hk1, hk2, ?_⟩
    refine for_core (n := k.toNat) (item := fun i => .int (i : Int)) Pv (S2.less fun a z => .inl z) F (fun a z => z) (L.step e f) h0 (fun i hi B' H' σ' δ' e' f' S' p => ⟨hi, fun x H3 hy => ?_⟩) (fun B' H' σ' δ' e' f' S' p => by exact Nat.le_refl _) hs hd
    obtain ⟨e1, e2⟩ := hy
    subst e1
    refine ⟨B', Gr.refl S'.bh, ?_⟩
    rw [e2, Int.zero_add]
    exact .int _
theorem xs_forR2 {g : TG} (h : EvS K ta δ fun s δ1 => EvS K tb δ1 fun s2 δ2 => ∃ lo k : Int, s = .pu (.int lo) ∧ s2 = .pu (.int k) ∧ (-(2 ^ 62) ≤ lo ∧ lo < 2 ^ 62 ∧ -(2 ^ 62) ≤ k ∧ k < 2 ^ 62) ∧ ∃ Pv : Nat → List Slot → Prop, Pv 0 δ2 ∧ (∀ (i : Nat) δ', i < (k - lo).toNat → Pv i δ' → Turn1 K g t d (.int (lo + (i : Int))) (Pv (i + 1)) δ') ∧ ∀ δ', Pv (k - lo).toNat δ' → d.nx δ') : ExS K (tFor (iRng2 (tCons ta (tCons tb tNil))) g t) d δ := fun B H σ F D S L =>
  h B H σ F _ S fun v1 M1 s1 B1 H1 δ1 e1 f1 S1 w1 n1 p1 => p1 B1 H1 σ _ _ S1 fun v M s B2 H2 δ2 e f S2 w n ⟨lo, k, es, es2, hk, Pv, h0, hs, hd⟩ => by
    subst es es2
    refine ⟨lo, k, by rw [dp_int_inv w.1, dp_int_inv w1.1], hk, ?_⟩
    refine for_core (n := (k - lo).toNat) (item := fun i => .int (lo + (i : Int))) Pv (S2.less fun a z => .inl (.inl z)) F (fun a z => z) ((L.step e1 f1).step e fun a z => f a (.inl z)) h0 (fun i hi B' H' σ' δ' e' f' S' p => ⟨hi, fun x H3 hy => ?_⟩) (fun B' H' σ' δ' e' f' S' p => by exact Nat.le_refl _) hs hd
    obtain ⟨e1, e2⟩ := hy
    subst e1
    refine ⟨B', Gr.refl S'.bh, ?_⟩
    rw [e2]
    exact .int _
/-- an owned list at a name stays as it is from here on -/
theorem Sd.frz {B H : Hp} {σ : L2.St} {F : Addr → Prop} {j : Nat} {ds : List PyData} (S : Sd K B H σ δ F) (hj : δ[j]? = some (.ow (RL K ds))) : ∃ B2, Ex B B2 ∧ Sd K B2 H σ (δ.set j (.pu (.list ds))) F := by
  obtain ⟨v, M, ev, ⟨p, xs, rfl, hp, ha, hM⟩, hb, hF, k⟩ := S.opn hj
  have hbp : B p = none := hb p ((hM p).mpr rfl)
  have e1 : Ex B (upd B p (.lst xs)) := Ex.new hbp
  have e2 : Ex (upd B p (.lst xs)) H := fun a u q => by
    by_cases e : a = p
    · subst e; rw [upd_same] at q; cases q; exact hp
    · rw [upd_ne e] at q; exact S.bh a u q
  have q := k (upd B p (.lst xs)) H (some (.ref p)) (.pu (.list ds)) (fun _ => False) e1 e2 (fun _ _ h _ => h) (fun a o h => ?_) ⟨_, rfl, .lst (SqL.of upd_same) (dpa_mono e1 _ _ ha), fun _ z => z⟩ (fun _ z => z.elim)
  · rw [set_self ev] at q
    exact ⟨_, e1, q⟩
  · by_cases e : a = p
    · exact .inr (.inr ((hM a).mpr e))
    · rw [upd_ne e] at h; exact .inl h
theorem xs_frz {j : Nat} {ds : List PyData} (hj : δ[j]? = some (.ow (RL K ds))) (h : ExS K t d (δ.set j (.pu (.list ds)))) : ExS K t d δ := fun B H σ F D S L => by
  obtain ⟨B2, e, S2⟩ := S.frz hj
  exact h B2 H σ F D S2 (L.step e fun _ _ => rfl)
theorem ev_frz {j : Nat} {ds : List PyData} {Φ : Slot → List Slot → Prop} (hj : δ[j]? = some (.ow (RL K ds))) (h : EvS K te (δ.set j (.pu (.list ds))) Φ) : EvS K te δ Φ := fun B H σ F Q S L => by
  obtain ⟨B2, e, S2⟩ := S.frz hj
  exact h B2 H σ F Q S2 fun v M s B3 H3 δ3 e3 f3 S3 w n q => L v M s B3 H3 δ3 (e.trans e3) f3 S3 w n q
/-- over a list -/
theorem xs_forL {g : TG} (h : EvD K te δ fun x δ1 => ∃ ds, x = .list ds ∧ ∃ Pv : Nat → List Slot → Prop, Pv 0 δ1 ∧ (∀ (i : Nat) y δ', ds[i]? = some y → Pv i δ' → Turn1 K g t d y (Pv (i + 1)) δ') ∧ ∀ δ', Pv ds.length δ' → d.nx δ') : ExS K (tFor (iList K te) g t) d δ := fun B H σ F D S L =>
  h B H σ F _ S fun v x B2 H2 δ1 e f S2 hd ⟨ds, ex, Pv, h0, hs, hn⟩ => by
    subst ex
    cases hd with
    | @lst p xs _ hq ha =>
      have len := dpa_len ha
      refine ⟨p, rfl, ⟨xs, Evl.ex_l S2.bh hq⟩, ?_⟩
      refine for_core (n := ds.length) (item := fun i => ds.getD i .none) Pv S2 F (fun a z => z) (L.step e f) h0 (fun i hi B' H' σ' δ' e' f' S' p' => ?_) (fun B' H' σ' δ' e' f' S' p' => ?_) (fun i δ' hi q => hs i _ δ' (by rw [List.getD_eq_getElem?_getD, List.getElem?_eq_getElem hi]; rfl) q) hn
      · have hq' : SqL K H' p xs := Evl.ex_l (e'.trans S'.bh) hq
        obtain ⟨w, hw, hdw⟩ := dpa_get ha (List.getElem?_eq_getElem hi)
        refine ⟨⟨xs, w, hq', hw⟩, fun y H3 hy => ?_⟩
        obtain ⟨e1, e2⟩ := hy
        subst e1
        refine ⟨B', Gr.refl S'.bh, ?_⟩
        have e3 := (e2 xs hq').symm.trans hw
        cases e3
        rw [List.getD_eq_getElem?_getD, List.getElem?_eq_getElem hi]
        exact dp_mono e' _ _ hdw
      · exact ⟨xs, Evl.ex_l (e'.trans S'.bh) hq, Nat.le_of_eq len⟩
theorem xs_forT {g : TG} (h : EvD K te δ fun x δ1 => ∃ ds, x = .tuple ds ∧ ∃ Pv : Nat → List Slot → Prop, Pv 0 δ1 ∧ (∀ (i : Nat) y δ', ds[i]? = some y → Pv i δ' → Turn1 K g t d y (Pv (i + 1)) δ') ∧ ∀ δ', Pv ds.length δ' → d.nx δ') : ExS K (tFor (iTup K te) g t) d δ := fun B H σ F D S L =>
  h B H σ F _ S fun v x B2 H2 δ1 e f S2 hd ⟨ds, ex, Pv, h0, hs, hn⟩ => by
    subst ex
    cases hd with
    | @tup p xs _ hq ha =>
      have len := dpa_len ha
      refine ⟨p, rfl, ⟨xs, Evl.ex_t S2.bh hq⟩, ?_⟩
      refine for_core (n := ds.length) (item := fun i => ds.getD i .none) Pv S2 F (fun a z => z) (L.step e f) h0 (fun i hi B' H' σ' δ' e' f' S' p' => ?_) (fun B' H' σ' δ' e' f' S' p' => ?_) (fun i δ' hi q => hs i _ δ' (by rw [List.getD_eq_getElem?_getD, List.getElem?_eq_getElem hi]; rfl) q) hn
      · have hq' : SqT K H' p xs := Evl.ex_t (e'.trans S'.bh) hq
        obtain ⟨w, hw, hdw⟩ := dpa_get ha (List.getElem?_eq_getElem hi)
        refine ⟨⟨xs, w, hq', hw⟩, fun y H3 hy => ?_⟩
        obtain ⟨e1, e2⟩ := hy
        subst e1
        refine ⟨B', Gr.refl S'.bh, ?_⟩
        have e3 := (e2 xs hq').symm.trans hw
        cases e3
        rw [List.getD_eq_getElem?_getD, List.getElem?_eq_getElem hi]
        exact dp_mono e' _ _ hdw
      · exact ⟨xs, Evl.ex_t (e'.trans S'.bh) hq, Nat.le_of_eq len⟩
/-- for i, x in enumerate(a list) -/
theorem xs_forE {g : TG} (h : EvD K te δ fun x δ1 => ∃ ds, x = .list ds ∧ ∃ Pv : Nat → List Slot → Prop, Pv 0 δ1 ∧ (∀ (i : Nat) y δ', ds[i]? = some y → Pv i δ' → Turn1 K g t d (.tuple [.int (i : Int), y]) (Pv (i + 1)) δ') ∧ ∀ δ', Pv ds.length δ' → d.nx δ') : ExS K (tFor (iEnum K (tCons te tNil)) g t) d δ := fun B H σ F D S L =>
  h B H σ F _ S fun v x B2 H2 δ1 e f S2 hd ⟨ds, ex, Pv, h0, hs, hn⟩ => by
    subst ex
    cases hd with
    | @lst p xs _ hq ha =>
      have len := dpa_len ha
      refine ⟨p, xs, rfl, Evl.ex_l S2.bh hq, ?_⟩
      refine for_core (n := ds.length) (item := fun i => .tuple [.int (i : Int), ds.getD i .none]) Pv S2 F (fun a z => z) (L.step e f) h0 (fun i hi B' H' σ' δ' e' f' S' p' => ?_) (fun B' H' σ' δ' e' f' S' p' => ?_) (fun i δ' hi q => hs i _ δ' (by rw [List.getD_eq_getElem?_getD, List.getElem?_eq_getElem hi]; rfl) q) hn
      · have hq' : SqL K H' p xs := Evl.ex_l (e'.trans S'.bh) hq
        obtain ⟨w, hw, hdw⟩ := dpa_get ha (List.getElem?_eq_getElem hi)
        refine ⟨⟨xs, w, hq', hw⟩, fun y H3 hy => ?_⟩
        obtain ⟨T, x', e1, hT, e2, e3⟩ := hy
        subst e1 e2
        have e4 := (e3 xs hq').symm.trans hw
        cases e4
        have gr := Gr.new (o := .tup [.int (i : Nat), w]) S'.bh hT
        refine ⟨_, gr, .tup (SqT.of upd_same) (.cons (.int _) (.cons ?_ .nil))⟩
        rw [List.getD_eq_getElem?_getD, List.getElem?_eq_getElem hi]
        exact dp_mono (e'.trans gr.b) _ _ hdw
      · exact ⟨xs, Evl.ex_l (e'.trans S'.bh) hq, Nat.le_of_eq len⟩
theorem xs_while (W : Nat → List Slot → Prop) (m0 : Nat) (h0 : W m0 δ)
    (hs : ∀ m δ', W m δ' → EvT K tt δ' fun b δ1 => if b = true then ExS K t { d with nx := fun δ2 => ∃ m', m' < m ∧ W m' δ2, ct := fun δ2 => ∃ m', m' < m ∧ W m' δ2, bk := d.nx } δ1 else d.nx δ1) : ExS K (tWhile tt t) d δ := fun B H σ F D S L => by
  refine ⟨fun m σ' H' => ∃ B' δ', Ex B B' ∧ (∀ a, F a → H' a = H a) ∧ Sd K B' H' σ' δ' F ∧ W m δ', ⟨m0, B, δ, Ex.refl _, fun _ _ => rfl, S, h0⟩, ?_⟩
  rintro m σ' H' ⟨B', δ', e, f, S', p⟩
  refine hs m δ' p B' H' σ' F _ S' fun b B2 H2 δ2 e2 f2 S2 q => ?_
  have f2' : ∀ a, F a → H2 a = H a := fun a z => (f2 a z).trans (f a z)
  cases b with
  | true =>
    rw [if_pos rfl] at q ⊢
    refine ⟨fun σ3 H3 => ∃ m', m' < m ∧ ∃ B3 δ3, Ex B B3 ∧ (∀ a, F a → H3 a = H a) ∧ Sd K B3 H3 σ3 δ3 F ∧ W m' δ3, fun σ3 H3 z => z, q B2 H2 σ' F _ S2 ⟨fun B3 H3 σ3 δ3 e3 f3 S3 ⟨m', hm, w⟩ => ⟨m', hm, B3, δ3, (e.trans e2).trans e3, fun a z => (f3 a z).trans (f2' a z), S3, w⟩, fun B3 H3 σ3 δ3 e3 f3 S3 w => ?_,
      fun B3 H3 σ3 δ3 e3 f3 S3 ⟨m', hm, w⟩ => ⟨m', hm, B3, δ3, (e.trans e2).trans e3, fun a z => (f3 a z).trans (f2' a z), S3, w⟩, fun v M s B3 H3 σ3 δ3 e3 f3 S3 w n q => ?_⟩⟩
    · exact L.nx B3 H3 σ3 δ3 ((e.trans e2).trans e3) (fun a z => (f3 a z).trans (f2' a z)) S3 w
    · exact L.rt v M s B3 H3 σ3 δ3 ((e.trans e2).trans e3) (fun a z => (f3 a z).trans (f2' a z)) S3 w n q
  | false =>
    rw [if_neg Bool.false_ne_true] at q ⊢
    exact L.nx B2 H2 σ' δ2 (e.trans e2) f2' S2 q
/-- x op= e, ints -/
theorem xs_aug {i : Nat} {fn : Int → Int → Int} (h : ∃ x : Int, δ[i]? = some (.pu (.int x)) ∧ EvS K te δ fun s δ1 => ∃ y : Int, s = .pu (.int y) ∧ i < δ1.length ∧ d.nx (δ1.set i (.pu (.int (fn x y))))) : ExS K (tAug i te (ipI fn)) d δ := fun B H σ F D S L => by
  obtain ⟨x, hx, h⟩ := h
  obtain ⟨v, ev, hv⟩ := S.pu hx
  refine ⟨v, ev, h B H σ F _ S fun w M s B2 H2 δ2 e f S2 wk n ⟨y, es, hi, q⟩ => ?_⟩
  subst es
  refine ⟨x, y, dp_int_inv hv, dp_int_inv wk.1, L.nx B2 H2 _ _ e f ((S2.less fun a z => .inl z).put_pu (.int _) hi) q⟩
/-- xs[i] = e, the list at the name j -/
theorem xs_setL {j : Nat} (h : EvD K te δ fun x δ1 => ∃ ds, δ1[j]? = some (.ow (RL K ds)) ∧ EvS K tb δ1 fun s δ2 => ∃ (i : Int) (k : Nat), δ2 = δ1 ∧ s = .pu (.int i) ∧ ixN ds.length i = some k ∧ d.nx (δ1.set j (.ow (RL K (ds.set k x))))) : ExS K (tAsg te (gSub (tVar j) tb rSetL)) d δ := fun B H σ F D S L =>
  h B H σ F _ S fun v x B2 H2 δ1 e f S2 hd ⟨ds, hj, p⟩ => by
    obtain ⟨vo, M, ev, hP, _⟩ := S2.opn hj
    refine ⟨vo, ev, p B2 H2 σ F _ S2 fun w Mw s B3 H3 δ3 e3 f3 S3 wk n ⟨i, k, eδ, es, hk, q⟩ => ?_⟩
    subst es eδ
    have S3' : Sd K B3 H3 σ δ3 F := S3.less fun a z => .inl z
    obtain ⟨vo2, M2, ev2, ⟨p2, xs, rfl, hp, ha, hM⟩, hb, hF, op⟩ := S3'.opn hj
    rw [ev] at ev2
    cases ev2
    refine ⟨p2, xs, i, k, rfl, dp_int_inv wk.1, hp, by rw [dpa_len ha]; exact hk, ?_⟩
    have fr : ∀ a, F a → upd H3 p2 (.lst (xs.set k v)) a = H3 a := fun a z => upd_ne fun e => hF a ((hM a).mpr e) z
    have q2 := op B3 (upd H3 p2 (.lst (xs.set k v))) (some (.ref p2)) (.ow (RL K (ds.set k x))) (fun a => a = p2) (Ex.refl _) (fun a u ha' => by
      rw [upd_ne (fun e => by rw [e, hb p2 ((hM p2).mpr rfl)] at ha'; cases ha')]
      exact S3'.bh a u ha') (fun a o ha' nm => by rw [upd_ne (fun e => nm ((hM a).mpr e))]; exact ha') (fun _ _ z => .inl z)
      ⟨_, rfl, ⟨p2, _, rfl, upd_same, dpa_set (dp_mono e3 _ _ hd) k ha, fun _ => Iff.rfl⟩, fun a z => by rw [z]; exact hb p2 ((hM p2).mpr rfl)⟩ (fun a z => .inl ((hM a).mpr z))
    rw [set_self ev] at q2
    exact L.nx B3 _ σ _ (e.trans e3) (fun a z => by rw [fr a z, f3 a z, f a z]) q2 q
end
end Dl

namespace Dl
open PySem PySem.Spec PyProof.Rows L2
open Evl (Ex)
section
variable {K : PySem.W.Frag} {δ : List Slot} {te ta tb tc : TE} {tt : TT} {t u : TS} {d : Dn}
/-! ### methods of lists at names -/
/-- an owned list's content is another one -/
theorem Sd.setL {B H B2 : Hp} {σ : L2.St} {F : Addr → Prop} {j : Nat} {ds ds' : List PyData} {p : Addr} {xs ys : List V} (S : Sd K B H σ δ F) (hj : δ[j]? = some (.ow (RL K ds))) (hv : σ[j]? = some (some (.ref p))) (hy : DpAll K B ys ds') : Sd K B (upd H p (.lst ys)) σ (δ.set j (.ow (RL K ds'))) F ∧ (∀ a, F a → upd H p (.lst ys) a = H a) ∧ ∃ xs, H p = some (.lst xs) ∧ DpAll K B xs ds := by
  obtain ⟨v, M, ev, ⟨p2, xs, rfl, hp, ha, hM⟩, hb, hF, op⟩ := S.opn hj
  rw [hv] at ev
  cases ev
  have q := op B (upd H p (.lst ys)) (some (.ref p)) (.ow (RL K ds')) (fun a => a = p) (Ex.refl _) (fun a u ha' => by
    rw [upd_ne (fun e => by rw [e, hb p ((hM p).mpr rfl)] at ha'; cases ha')]
    exact S.bh a u ha') (fun a o ha' nm => by rw [upd_ne (fun e => nm ((hM a).mpr e))]; exact ha') (fun _ _ z => .inl z)
    ⟨_, rfl, ⟨p, _, rfl, upd_same, hy, fun _ => Iff.rfl⟩, fun a z => by rw [z]; exact hb p ((hM p).mpr rfl)⟩ (fun a z => .inl ((hM a).mpr z))
  rw [set_self hv] at q
  exact ⟨q, fun a z => upd_ne fun e => hF a ((hM a).mpr e) z, xs, hp, ha⟩
theorem ev_append {j : Nat} {Φ : Slot → List Slot → Prop} (h : ∃ R, δ[j]? = some (.ow R) ∧ EvD K te δ fun x δ1 => ∃ ds, δ1[j]? = some (.ow (RL K ds)) ∧ ds.length < 100000 ∧ Φ (.pu .none) (δ1.set j (.ow (RL K (ds ++ [x]))))) (hR : ∀ R, δ[j]? = some (.ow R) → ∃ ds, R = RL K ds) : EvS K (tBM K "list" rAppend (tVar j) (tCons te tNil)) δ Φ := fun B H σ F Q S k => by
  obtain ⟨R, hR0, h⟩ := h
  obtain ⟨ds0, rfl⟩ := hR R hR0
  obtain ⟨v, M, ev, ⟨p, xs0, rfl, hp0, _⟩, _⟩ := S.opn hR0
  refine ⟨_, ev, .inl ⟨rfl, xs0, SqL.of hp0⟩, h B H σ F _ S fun w x B2 H2 δ1 e f S2 hd ⟨ds, hj, hl, q⟩ => ?_⟩
  obtain ⟨_, _, xs, hp, ha⟩ := S2.setL (B2 := B2) (xs := []) (ys := []) (ds' := []) hj ev .nil
  obtain ⟨S3, f3, _⟩ := S2.setL (B2 := B2) (xs := []) hj ev (dpa_append ha (dpa_one hd))
  refine ⟨p, xs, w, rfl, rfl, hp, Evl.sz_lt (by rw [dpa_len ha]; exact hl), ?_⟩
  exact k .non (fun _ => False) (.pu .none) B2 _ _ e (fun a z => (f3 a z).trans (f a z)) (S3.less fun a z => z.elim id False.elim) ⟨.non, fun _ z => z⟩ (fun _ z => z.elim) q
theorem ev_pop {j : Nat} {ds : List PyData} {x : PyData} {Φ : Slot → List Slot → Prop} (hj : δ[j]? = some (.ow (RL K ds))) (hx : ds[ds.length - 1]? = some x) (h : Φ (.pu x) (δ.set j (.ow (RL K ds.dropLast)))) : EvS K (tBM0 K "list" rPop (tVar j)) δ Φ := fun B H σ F Q S k => by
  obtain ⟨v, M, ev, ⟨p, xs, rfl, hp, ha, _⟩, _⟩ := S.opn hj
  obtain ⟨S3, f3, _⟩ := S.setL (B2 := B) (xs := []) hj ev (dpa_dropLast ha)
  obtain ⟨w, hw, hd⟩ := dpa_get ha hx
  exact ⟨_, ev, .inl ⟨rfl, xs, SqL.of hp⟩, p, xs, w, rfl, rfl, hp, by rw [dpa_len ha]; exact hw, k w (fun _ => False) (.pu x) B _ _ (Ex.refl _) f3 (S3.less fun a z => z.elim id False.elim) ⟨hd, fun _ z => z⟩ (fun _ z => z.elim) h⟩
theorem ev_popAt {j : Nat} {Φ : Slot → List Slot → Prop} {ds0 : List PyData} (h0 : δ[j]? = some (.ow (RL K ds0))) (h : EvS K te δ fun s δ1 => ∃ ds, δ1[j]? = some (.ow (RL K ds)) ∧ ∃ (i : Nat) (x : PyData), s = .pu (.int (i : Int)) ∧ ds[i]? = some x ∧ ds.length ≤ 100000 ∧ Φ (.pu x) (δ1.set j (.ow (RL K (ds.eraseIdx i))))) : EvS K (tBM K "list" rPopAt (tVar j) (tCons te tNil)) δ Φ := fun B H σ F Q S k => by
  obtain ⟨v, M, ev, ⟨p, xs0, rfl, hp0, _⟩, _⟩ := S.opn h0
  refine ⟨_, ev, .inl ⟨rfl, xs0, SqL.of hp0⟩, h B H σ F _ S fun w M2 s B2 H2 δ1 e f S2 wk n ⟨ds, hj, i, x, es, hx, hl, q⟩ => ?_⟩
  subst es
  have S2' : Sd K B2 H2 σ δ1 F := S2.less fun a z => .inl z
  obtain ⟨_, _, xs, hp, ha⟩ := S2'.setL (B2 := B2) (xs := []) (ys := []) (ds' := []) hj ev .nil
  obtain ⟨S3, f3, _⟩ := S2'.setL (B2 := B2) (xs := []) hj ev (dpa_erase i ha)
  obtain ⟨y, hy, hd⟩ := dpa_get ha hx
  have hil : i < xs.length := (List.getElem?_eq_some_iff.mp hy).1
  have hxl := dpa_len ha
  refine ⟨p, xs, (i : Int), i, y, rfl, by rw [dp_int_inv wk.1], hp, by omega, by omega, ?_, hy, ?_⟩
  · unfold seqIndex?
    have h1 : ¬ ((i : Int) < 0) := by omega
    simp [h1, hil]
  · exact k y (fun _ => False) (.pu x) B2 _ _ e (fun a z => (f3 a z).trans (f a z)) (S3.less fun a z => z.elim id False.elim) ⟨hd, fun _ z => z⟩ (fun _ z => z.elim) q
/-! ### comprehensions -/
def wipeD (δ : List Slot) : List Nat → List Slot
  | [] => δ
  | v :: vs => (wipeD δ vs).set v .non
theorem wipeD_len : ∀ {vs : List Nat}, (wipeD δ vs).length = δ.length
  | [] => rfl
  | v :: vs => by unfold wipeD; rw [List.length_set, wipeD_len]
theorem Sd.wiped {B H : Hp} {σ : L2.St} {F : Addr → Prop} (S : Sd K B H σ δ F) : ∀ (vs : List Nat), Sd K B H (wipe σ vs) (wipeD δ vs) F
  | [] => S
  | v :: vs => by
    unfold wipe wipeD
    have S1 := Sd.wiped S vs
    by_cases h : v < (wipeD δ vs).length
    · exact S1.put_non h
    · rw [List.set_eq_of_length_le (by rw [S1.len]; omega), List.set_eq_of_length_le (by omega)]
      exact S1
theorem wipe_out {i : Nat} {σ : L2.St} : ∀ {vs : List Nat}, i ∉ vs → (wipe σ vs)[i]? = σ[i]?
  | [], _ => rfl
  | v :: vs, h => by
    unfold wipe
    rw [List.getElem?_set_ne (fun z => h (by rw [← z]; exact List.mem_cons_self ..)), wipe_out fun z => h (List.mem_cons_of_mem _ z)]
theorem wipe_in {i : Nat} {σ : L2.St} : ∀ {vs : List Nat}, i ∈ vs → i < σ.length → (wipe σ vs)[i]? = some none
  | v :: vs, h, hl => by
    unfold wipe
    by_cases e : v = i
    · subst e
      rw [List.getElem?_set_self (by rw [wipe_length]; exact hl)]
    · rw [List.getElem?_set_ne e]
      exact wipe_in ((List.mem_cons.mp h).resolve_left fun z => e z.symm) hl
theorem wipe_ext {σ σ' : L2.St} {vs : List Nat} (hl : σ.length = σ'.length) (h : ∀ i, i ∉ vs → σ[i]? = σ'[i]?) : wipe σ vs = wipe σ' vs := by
  apply List.ext_getElem?
  intro i
  by_cases hi : i ∈ vs
  · by_cases hl2 : i < σ.length
    · rw [wipe_in hi hl2, wipe_in hi (by omega)]
    · rw [List.getElem?_eq_none (by rw [wipe_length]; omega), List.getElem?_eq_none (by rw [wipe_length]; omega)]
  · rw [wipe_out hi, wipe_out hi, h i hi]
theorem wipeD_out {i : Nat} : ∀ {vs : List Nat}, i ∉ vs → (wipeD δ vs)[i]? = δ[i]?
  | [], _ => rfl
  | v :: vs, h => by
    unfold wipeD
    rw [List.getElem?_set_ne (fun z => h (by rw [← z]; exact List.mem_cons_self ..)), wipeD_out fun z => h (List.mem_cons_of_mem _ z)]
/-- the block's names are what they were before -/
theorem Sd.unwipe {B H B2 H2 : Hp} {σ σ2 : L2.St} {δ2 : List Slot} {F F2 : Addr → Prop} {vs : List Nat} (S : Sd K B H σ δ F) (S2 : Sd K B2 H2 σ2 δ2 F2) (e : Ex B B2) (hσ : ∀ i, i ∉ vs → σ2[i]? = σ[i]?) (hδ : ∀ i, i ∉ vs → δ2[i]? = δ[i]?)
    (hv : ∀ i ∈ vs, ∀ s, δ[i]? = some s → s = .non ∨ ∃ d, s = .pu d) : Sd K B2 H2 σ δ F2 := by
  obtain ⟨ms, h1, h2, h3, h4⟩ := S.sl
  obtain ⟨ms2, k1, k2, k3, k4⟩ := S2.sl
  refine ⟨S2.bh, S.len, S2.fb, S2.fl, fun i a => i ∉ vs ∧ i < δ.length ∧ ms2 i a, fun i s hs => ?_, fun i j a q1 q2 => k2 i j a q1.2.2 q2.2.2, fun i a q => k3 i a q.2.2, fun i a q => q.2.1⟩
  by_cases hi : i ∈ vs
  · rcases hv i hi s hs with rfl | ⟨x, rfl⟩
    · exact fun a z => z.1 hi
    · obtain ⟨v, ev, hd, _⟩ := h1 i _ hs
      exact ⟨v, ev, dp_mono e _ _ hd, fun a z => z.1 hi⟩
  · have q := k1 i s (by rw [hδ i hi]; exact hs)
    rw [hσ i hi] at q
    have hil : i < δ.length := (List.getElem?_eq_some_iff.mp hs).1
    cases s with
    | non => exact fun a z => q a z.2.2
    | pu x => obtain ⟨v, ev, hd, hM⟩ := q; exact ⟨v, ev, hd, fun a z => hM a z.2.2⟩
    | ow R =>
      obtain ⟨v, ev, hP, hb⟩ := q
      have eM : (fun a => i ∉ vs ∧ i < δ.length ∧ ms2 i a) = ms2 i := funext fun a => propext ⟨fun z => z.2.2, fun z => ⟨hi, hil, z⟩⟩
      exact ⟨v, ev, by show R.P v B2 H2 (fun a => i ∉ vs ∧ i < δ.length ∧ ms2 i a); rw [eM]; exact hP, fun a z => hb a z.2.2⟩
    | al _ => exact q
/-- one turn of a comprehension: the list so far acc, behind it Pv -/
def TurnC (K : PySem.W.Frag) (g : TG) (tt : TT) (te : TE) (vs : List Nat) (δ : List Slot) (x : PyData) (acc : List PyData) (Pn : List PyData → Prop) : Prop :=
  ∃ as, TgS K g x as ∧ (∀ p ∈ as, p.1 < δ.length ∧ p.1 ∈ vs) ∧ EvT K tt (setD (wipeD δ vs) as) fun b δ1 => (∀ i, i ∉ vs → δ1[i]? = δ[i]?) ∧ if b = true then EvD K te δ1 fun y δ2 => (∀ i, i ∉ vs → δ2[i]? = δ[i]?) ∧ acc.length < 100000 ∧ Pn (acc ++ [y]) else Pn acc
theorem lc_core' {n : Nat} {item : Nat → PyData} {g : TG} {J : It} {vs : List Nat} {B H : Hp} {σ : L2.St} {F F0 : Addr → Prop} {Q : VK} (Pv : Nat → List PyData → Prop) (S : Sd K B H σ δ F) (hF0 : ∀ a, F0 a → F a) (hv : ∀ i ∈ vs, ∀ s, δ[i]? = some s → s = .non ∨ ∃ d, s = .pu d)
    (hgo : ∀ i, i < n → ∀ B' H', Ex B B' → (∀ a, F a → H' a = H a) → Sd K B' H' σ δ F → J.go i H' ∧ ∀ x H2, J.yld i H' x H2 → ∃ B2, Gr B' H' B2 H2 ∧ Dp K B2 x (item i))
    (hst : ∀ B' H', Ex B B' → (∀ a, F a → H' a = H a) → Sd K B' H' σ δ F → J.stop n H')
    (h0 : Pv 0 []) (hs : ∀ i acc, i < n → Pv i acc → TurnC K g tt te vs δ (item i) acc (Pv (i + 1)))
    (hd : ∀ acc v M B2 H2, Pv n acc → Ex B B2 → (∀ a, F a → H2 a = H a) → Sd K B2 H2 σ δ (fun a => F0 a ∨ M a) → (RL K acc).P v B2 H2 M → (∀ a, M a → ¬ F a) → Q v H2) :
    ∀ D, H D = none → ∃ W : Nat → Nat → Hp → Prop, (∃ m, W 0 m (upd H D (.lst []))) ∧ ∀ i m H, W i m H →
  (J.stop i H ∧ Q (.ref D) H) ∨ (J.go i H ∧ ∃ Nx : Hp → Prop, (∀ H', Nx H' → ∃ m', m' < m ∧ W (i + 1) m' H') ∧ ∀ x H', J.yld i H x H' → g x (wipe σ vs) H' fun σ2 H2 => wipe σ2 vs = wipe σ vs ∧ tt σ2 H2 fun b H3 =>
    if b = true then te σ2 H3 fun y H4 => ∃ acc, H4 D = some (.lst acc) ∧ acc.length < sizeLine ∧ Nx (upd H4 D (.lst (acc ++ [y]))) else Nx H3) := by
  intro D hD
  -- what holds between two turns
  let Inv := fun (i : Nat) (H' : Hp) => ∃ B' xs acc, Ex B B' ∧ (∀ a, F a → H' a = H a) ∧ Sd K B' H' σ δ (fun a => F a ∨ a = D) ∧ H' D = some (.lst xs) ∧ DpAll K B' xs acc ∧ Pv i acc
  have nF : ¬ F D := fun z => S.fl D z hD
  refine ⟨fun i m H' => m = n - i ∧ i ≤ n ∧ Inv i H', ⟨n, rfl, Nat.zero_le _, B, [], [], Ex.refl _, fun a z => upd_ne fun e => nF (by rw [← e]; exact z), sd_own S hD, upd_same, .nil, h0⟩, ?_⟩
  rintro i m H' ⟨rfl, hi, B', xs, acc, e, f, S', hx, ha, p⟩
  by_cases hlt : i < n
  · obtain ⟨g1, g2⟩ := hgo i hlt B' H' e f (S'.less fun a z => .inl z)
    refine .inr ⟨g1, Inv (i + 1), fun H2 q => ⟨n - (i + 1), by omega, rfl, hlt, q⟩, fun x H2 hy => ?_⟩
    obtain ⟨B2, gr, hxd⟩ := g2 x H2 hy
    obtain ⟨as, hg, hl, hb⟩ := hs i acc hlt p
    have S2 := S'.grow gr
    have f2 : ∀ a, F a → H2 a = H a := fun a z => (ex_eq gr.h (S'.fl a (.inl z))).trans (f a z)
    have hx2 : H2 D = some (.lst xs) := gr.h _ _ hx
    refine hg B2 H2 x (wipe σ vs) _ S2.bh hxd fun us hu => ?_
    have agree : ∀ j, j ∉ vs → (setV (wipe σ vs) (as.map (·.1)) us)[j]? = σ[j]? := fun j hj => by
      rw [setV_out (fun z => by
        obtain ⟨q, hq, e1⟩ := List.mem_map.mp z
        exact hj (e1 ▸ (hl q hq).2)), wipe_out hj]
    refine ⟨?_, ?_⟩
    · exact wipe_ext (by rw [setV_len, wipe_length]) agree
    · have S3 : Sd K B2 H2 (setV (wipe σ vs) (as.map (·.1)) us) (setD (wipeD δ vs) as) (fun a => F a ∨ a = D) := (S2.wiped vs).puts hu fun q hq => by rw [wipeD_len]; exact (hl q hq).1
      refine hb B2 H2 _ _ _ S3 fun b B3 H3 δ3 e3 f3 S4 ⟨ag, q⟩ => ?_
      have f3' : ∀ a, F a → H3 a = H a := fun a z => (f3 a (.inl z)).trans (f2 a z)
      cases b with
      | true =>
        rw [if_pos rfl] at q ⊢
        refine q B3 H3 _ _ _ S4 fun y yd B4 H4 δ4 e4 f4 S5 hyd ⟨ag4, hlen, pn⟩ => ?_
        have hx4 : H4 D = some (.lst xs) := by rw [f4 D (.inr rfl), f3 D (.inr rfl)]; exact hx2
        have eB : Ex B B4 := ((e.trans gr.b).trans e3).trans e4
        have eB' : Ex B' B4 := (gr.b.trans e3).trans e4
        refine ⟨xs, hx4, Evl.sz_lt (by rw [dpa_len ha]; exact hlen), B4, xs ++ [y], acc ++ [yd], eB, fun a z => ?_, ?_, upd_same, dpa_append (dpa_mono eB' _ _ ha) (dpa_one hyd), pn⟩
        · rw [upd_ne (fun z2 => nF (by rw [← z2]; exact z)), f4 a (.inl z), f3' a z]
        · have S6 : Sd K B4 H4 σ δ (fun a => F a ∨ a = D) := S'.unwipe (vs := vs) S5 eB' agree ag4 hv
          -- D is written
          obtain ⟨ms, h1, h2, h3, h4⟩ := S6.sl
          have hbD : B4 D = none := S6.fb D (.inr rfl)
          have ex : Ex B4 (upd H4 D (.lst (xs ++ [y]))) := fun a u ha' => by
            rw [upd_ne (fun z => by rw [z, hbD] at ha'; cases ha')]
            exact S6.bh a u ha'
          refine ⟨ex, S6.len, S6.fb, fun a z => ?_, ms, fun j s hs => ?_, h2, h3, h4⟩
          · by_cases e5 : a = D
            · rw [e5, upd_same]; exact fun z => nomatch z
            · rw [upd_ne e5]; exact S6.fl a z
          · have q := h1 j s hs
            cases s with
            | non => exact q
            | pu x => exact q
            | ow R =>
              obtain ⟨v, ev, hP, hb'⟩ := q
              exact ⟨v, ev, R.loc hP (Ex.refl _) fun a z => upd_ne fun e5 => h3 j a z (.inr e5), hb'⟩
            | al _ => exact q
      | false =>
        rw [if_neg Bool.false_ne_true] at q ⊢
        have eB' : Ex B' B3 := gr.b.trans e3
        exact ⟨B3, xs, acc, (e.trans gr.b).trans e3, f3', S'.unwipe (vs := vs) S4 eB' agree ag hv, by rw [f3 D (.inr rfl)]; exact hx2, dpa_mono eB' _ _ ha, q⟩
  · have e1 : i = n := by omega
    subst e1
    exact .inl ⟨hst B' H' e f (S'.less fun a z => .inl z), hd acc (.ref D) (fun a => a = D) B' H' p e f (S'.less fun a z => z.elim (fun z => .inl (hF0 a z)) .inr) ⟨D, xs, rfl, hx, ha, fun _ => Iff.rfl⟩ (fun a z z2 => nF (by rw [← z]; exact z2))⟩
/-- what a comprehension asks of the names it wipes -/
def Wip (δ : List Slot) (vs : List Nat) : Prop := ∀ i ∈ vs, ∀ s, δ[i]? = some s → s = .non ∨ ∃ d, s = .pu d
theorem ev_lcR1 {g : TG} {vs : List Nat} {Φ : Slot → List Slot → Prop} (h : EvS K ta δ fun s δ1 => ∃ k : Int, s = .pu (.int k) ∧ -(2 ^ 62) ≤ k ∧ k < 2 ^ 62 ∧ Wip δ1 vs ∧ ∃ Pv : Nat → List PyData → Prop, Pv 0 [] ∧ (∀ (i : Nat) acc, i < k.toNat → Pv i acc → TurnC K g tt te vs δ1 (.int (i : Int)) acc (Pv (i + 1))) ∧ ∀ acc, Pv k.toNat acc → Φ (.ow (RL K acc)) δ1) : EvS K (tLc (iRng1 (tCons ta tNil)) g tt te vs) δ Φ := fun B H σ F Q S kk =>
  h B H σ F _ S fun v M s B2 H2 δ1 e f S2 w n ⟨k, es, hk1, hk2, hw, Pv, h0, hs, hd⟩ => by
    subst es
    have S2' : Sd K B2 H2 σ δ1 F := S2.less fun a z => .inl z
    refine ⟨k, by rw [dp_int_inv w.1], hk1, hk2, ?_⟩
    refine lc_core' (n := k.toNat) (item := fun i => .int (i : Int)) Pv S2' (F0 := F) (fun a z => z) hw (fun i hi B' H' e' f' S' => ⟨hi, fun x H3 hy => ?_⟩) (fun B' H' e' f' S' => by exact Nat.le_refl _) h0 hs (fun acc v M B3 H3 p e3 f3 S3 hP hM => kk v M (.ow (RL K acc)) B3 H3 δ1 (e.trans e3) (fun a z => (f3 a z).trans (f a z)) S3 hP hM (hd acc p))
    obtain ⟨e1, e2⟩ := hy
    subst e1
    refine ⟨B', Gr.refl S'.bh, ?_⟩
    rw [e2, Int.zero_add]
    exact .int _
theorem ev_lcR2 {g : TG} {vs : List Nat} {Φ : Slot → List Slot → Prop} (h : EvS K ta δ fun s δ1 => EvS K tb δ1 fun s2 δ2 => ∃ lo k : Int, s = .pu (.int lo) ∧ s2 = .pu (.int k) ∧ (-(2 ^ 62) ≤ lo ∧ lo < 2 ^ 62 ∧ -(2 ^ 62) ≤ k ∧ k < 2 ^ 62) ∧ Wip δ2 vs ∧ ∃ Pv : Nat → List PyData → Prop, Pv 0 [] ∧ (∀ (i : Nat) acc, i < (k - lo).toNat → Pv i acc → TurnC K g tt te vs δ2 (.int (lo + (i : Int))) acc (Pv (i + 1))) ∧ ∀ acc, Pv (k - lo).toNat acc → Φ (.ow (RL K acc)) δ2) : EvS K (tLc (iRng2 (tCons ta (tCons tb tNil))) g tt te vs) δ Φ := fun B H σ F Q S kk =>
  h B H σ F _ S fun v1 M1 s1 B1 H1 δ1 e1 f1 S1 w1 n1 p1 => p1 B1 H1 σ _ _ S1 fun v M s B2 H2 δ2 e f S2 w n ⟨lo, k, es, es2, hk, hw, Pv, h0, hs, hd⟩ => by
    subst es es2
    have S2' : Sd K B2 H2 σ δ2 F := S2.less fun a z => .inl (.inl z)
    have f' : ∀ a, F a → H2 a = H a := fun a z => (f a (.inl z)).trans (f1 a z)
    refine ⟨lo, k, by rw [dp_int_inv w.1, dp_int_inv w1.1], hk, ?_⟩
    refine lc_core' (n := (k - lo).toNat) (item := fun i => .int (lo + (i : Int))) Pv S2' (F0 := F) (fun a z => z) hw (fun i hi B' H' e' f' S' => ⟨hi, fun x H3 hy => ?_⟩) (fun B' H' e' f' S' => by exact Nat.le_refl _) h0 hs (fun acc v M B3 H3 p e3 f3 S3 hP hM => kk v M (.ow (RL K acc)) B3 H3 δ2 ((e1.trans e).trans e3) (fun a z => (f3 a z).trans (f' a z)) S3 hP hM (hd acc p))
    obtain ⟨e1, e2⟩ := hy
    subst e1
    refine ⟨B', Gr.refl S'.bh, ?_⟩
    rw [e2]
    exact .int _
/-- over a list, also one at a name that goes on to be owned -/
theorem ev_lcL {g : TG} {vs : List Nat} {Φ : Slot → List Slot → Prop} (h : EvS K ta δ fun s δ1 => ∃ ds, den K δ1 s (.list ds) ∧ Wip δ1 vs ∧ ∃ Pv : Nat → List PyData → Prop, Pv 0 [] ∧ (∀ (i : Nat) y acc, ds[i]? = some y → Pv i acc → TurnC K g tt te vs δ1 y acc (Pv (i + 1))) ∧ ∀ acc, Pv ds.length acc → Φ (.ow (RL K acc)) δ1) : EvS K (tLc (iList K ta) g tt te vs) δ Φ := fun B H σ F Q S kk =>
  h B H σ F _ S fun v M s B2 H2 δ1 e f S2 w n ⟨ds, hden, hw, Pv, h0, hs, hd⟩ => by
    obtain ⟨p, xs0, rfl, hq0, ha0⟩ := (den_dr S2 w hden).lst S2.bh
    refine ⟨p, rfl, ⟨xs0, hq0⟩, ?_⟩
    have key : ∀ B' H', Ex B2 B' → (∀ a, (F a ∨ M a) → H' a = H2 a) → Sd K B' H' σ δ1 (fun a => F a ∨ M a) → ∃ xs, SqL K H' p xs ∧ DpAll K B' xs ds := fun B' H' e' f' S' => by
      have w' : VOk K σ δ1 B' H' (.ref p) M s := w.step e' fun a z => f' a (.inr z)
      obtain ⟨p', xs', e1, hq', ha'⟩ := (den_dr S' w' hden).lst S'.bh
      cases e1
      exact ⟨xs', hq', ha'⟩
    refine lc_core' (n := ds.length) (item := fun i => ds.getD i .none) Pv S2 (F0 := F) (fun a z => .inl z) hw (fun i hi B' H' e' f' S' => ?_) (fun B' H' e' f' S' => ?_) h0 (fun i acc hi q => hs i _ acc (by rw [List.getD_eq_getElem?_getD, List.getElem?_eq_getElem hi]; rfl) q) (fun acc v M B3 H3 p e3 f3 S3 hP hM => kk v M (.ow (RL K acc)) B3 H3 δ1 (e.trans e3) (fun a z => (f3 a (.inl z)).trans (f a z)) S3 hP (fun a z z2 => hM a z (.inl z2)) (hd acc p))
    · obtain ⟨xs, hq, ha⟩ := key B' H' e' f' S'
      obtain ⟨w2, hw2, hdw⟩ := dpa_get ha (List.getElem?_eq_getElem hi)
      refine ⟨⟨xs, w2, hq, hw2⟩, fun y H3 hy => ?_⟩
      obtain ⟨e1, e2⟩ := hy
      subst e1
      refine ⟨B', Gr.refl S'.bh, ?_⟩
      have e3 := (e2 xs hq).symm.trans hw2
      cases e3
      rw [List.getD_eq_getElem?_getD, List.getElem?_eq_getElem hi]
      exact hdw
    · obtain ⟨xs, hq, ha⟩ := key B' H' e' f' S'
      exact ⟨xs, hq, Nat.le_of_eq (dpa_len ha)⟩
theorem ev_lcT {g : TG} {vs : List Nat} {Φ : Slot → List Slot → Prop} (h : EvS K ta δ fun s δ1 => ∃ ds, s = .pu (.tuple ds) ∧ Wip δ1 vs ∧ ∃ Pv : Nat → List PyData → Prop, Pv 0 [] ∧ (∀ (i : Nat) y acc, ds[i]? = some y → Pv i acc → TurnC K g tt te vs δ1 y acc (Pv (i + 1))) ∧ ∀ acc, Pv ds.length acc → Φ (.ow (RL K acc)) δ1) : EvS K (tLc (iTup K ta) g tt te vs) δ Φ := fun B H σ F Q S kk =>
  h B H σ F _ S fun v M s B2 H2 δ1 e f S2 w n ⟨ds, es, hw, Pv, h0, hs, hd⟩ => by
    subst es
    have S2' : Sd K B2 H2 σ δ1 F := S2.less fun a z => .inl z
    have hd0 := w.1
    cases hd0 with
    | @tup p xs _ hq ha =>
      refine ⟨p, rfl, ⟨xs, Evl.ex_t S2.bh hq⟩, ?_⟩
      refine lc_core' (n := ds.length) (item := fun i => ds.getD i .none) Pv S2' (F0 := F) (fun a z => z) hw (fun i hi B' H' e' f' S' => ?_) (fun B' H' e' f' S' => ?_) h0 (fun i acc hi q => hs i _ acc (by rw [List.getD_eq_getElem?_getD, List.getElem?_eq_getElem hi]; rfl) q) (fun acc v M B3 H3 p e3 f3 S3 hP hM => kk v M (.ow (RL K acc)) B3 H3 δ1 (e.trans e3) (fun a z => (f3 a z).trans (f a z)) S3 hP hM (hd acc p))
      · have hq' : SqT K H' p xs := Evl.ex_t (e'.trans S'.bh) hq
        obtain ⟨w2, hw2, hdw⟩ := dpa_get ha (List.getElem?_eq_getElem hi)
        refine ⟨⟨xs, w2, hq', hw2⟩, fun y H3 hy => ?_⟩
        obtain ⟨e1, e2⟩ := hy
        subst e1
        refine ⟨B', Gr.refl S'.bh, ?_⟩
        have e3 := (e2 xs hq').symm.trans hw2
        cases e3
        rw [List.getD_eq_getElem?_getD, List.getElem?_eq_getElem hi]
        exact dp_mono e' _ _ hdw
      · exact ⟨xs, Evl.ex_t (e'.trans S'.bh) hq, Nat.le_of_eq (dpa_len ha)⟩
theorem et_yes {Φ : Bool → List Slot → Prop} (h : Φ true δ) : EvT K tYes δ Φ := fun B H σ F Q S k => k true B H δ (Ex.refl _) (fun _ _ => rfl) S h
end
end Dl

namespace Dl
open PySem PySem.Spec PyProof.Rows L2
open Evl (Ex)
/-! ### results of defs -/
inductive Rt where
  | d (z : PyData) | l (zs : List PyData)
def Rt.slot (K : PySem.W.Frag) : Rt → Slot
  | .d z => .pu z
  | .l zs => .ow (RL K zs)
def Rt.flat : Rt → Bool
  | .d z => flatD z
  | .l zs => zs.all flatD
def RtOk (K : PySem.W.Frag) (H B2 H2 : Hp) (v : V) : Rt → Prop
  | .d z => Dp K B2 v z
  | .l zs => ∃ p xs, v = .ref p ∧ H p = none ∧ B2 p = none ∧ H2 p = some (.lst xs) ∧ DpAll K B2 xs zs
/-- a def that changes nothing: data in, data or a new list out -/
def spP (K : PySem.W.Frag) (n : Nat) (pre : List PyData → Prop) (T : List PyData → Rt → Prop) : Sp := fun vs H Q _ =>
  ∃ B ds, Ex B H ∧ DpAll K B vs ds ∧ ds.length = n ∧ pre ds ∧ ∀ v B2 H2 r, Gr B H B2 H2 → RtOk K H B2 H2 v r → T ds r → Q v H2
theorem spP_len {K : PySem.W.Frag} {n : Nat} {pre : List PyData → Prop} {T : List PyData → Rt → Prop} {vs : List V} {H : Hp} {Q : VK} {E : XK} (h : spP K n pre T vs H Q E) : vs.length = n := by
  obtain ⟨B, ds, _, ha, hn, _⟩ := h
  rw [dpa_len ha, hn]
section
variable {K : PySem.W.Frag} {δ : List Slot} {te ta tb tc : TE} {tr : TA} {tt : TT} {t u : TS} {d : Dn}
theorem sd_fresh {B H B3 H3 : Hp} {σ : L2.St} {F : Addr → Prop} {p : Addr} (S : Sd K B H σ δ F) (g : Gr B H B3 H3) (hp : H p = none) (hb : B3 p = none) (h3 : H3 p ≠ none) : Sd K B3 H3 σ δ fun a => F a ∨ a = p := by
  have S2 := S.grow g
  obtain ⟨ms, h1, h2, h3', h4⟩ := S.sl
  refine ⟨S2.bh, S2.len, fun a ha => ?_, fun a ha => ?_, ms, fun i s hs => (h1 i s hs).grow g, h2, fun i a q z => ?_, h4⟩
  · rcases ha with z | rfl
    · exact S2.fb a z
    · exact hb
  · rcases ha with z | rfl
    · exact S2.fl a z
    · exact h3
  · rcases z with z | rfl
    · exact h3' i a q z
    · have hl := h4 i a q
      have q2 := h1 i δ[i] (List.getElem?_eq_getElem hl)
      cases e : δ[i] with
      | non => rw [e] at q2; exact q2 a q
      | pu d => rw [e] at q2; obtain ⟨_, _, _, z⟩ := q2; exact z a q
      | ow R => rw [e] at q2; obtain ⟨_, _, hP, _⟩ := q2; exact R.live hP a q hp
      | al j => rw [e] at q2; exact q2
theorem ev_call {n : Nat} {pre : List PyData → Prop} {T : List PyData → Rt → Prop} {E : XK} {Φ : Slot → List Slot → Prop} (h : EvDs K tr δ fun ds δ1 => ds.length = n ∧ pre ds ∧ ∀ r, T ds r → Φ (r.slot K) δ1) : EvS K (tCall (spP K n pre T) [] E tr) δ Φ := fun B H σ F Q S k =>
  h B H σ F _ S fun vs ds B2 H2 δ1 e f S2 ha ⟨hn, hp, q⟩ => by
    show spP K n pre T (vs ++ []) H2 Q E
    rw [List.append_nil]
    refine ⟨B2, ds, S2.bh, ha, hn, hp, fun v B3 H3 r g hr hT => ?_⟩
    have f3 : ∀ a, F a → H3 a = H a := fun a z => (ex_eq g.h (S2.fl a z)).trans (f a z)
    cases r with
    | d z => exact k v (fun _ => False) (.pu z) B3 H3 δ1 (e.trans g.b) f3 ((S2.grow g).less fun a z => z.elim id False.elim) ⟨hr, fun _ z => z⟩ (fun _ z => z.elim) (q _ hT)
    | l zs =>
      obtain ⟨p, xs, rfl, hp, hb, h3, hx⟩ := hr
      exact k (.ref p) (fun a => a = p) (.ow (RL K zs)) B3 H3 δ1 (e.trans g.b) f3 (sd_fresh S2 g hp hb (by rw [h3]; exact fun z => nomatch z)) ⟨p, xs, rfl, h3, hx, fun _ => Iff.rfl⟩ (fun a z z2 => S2.fl a z2 (by rw [z]; exact hp)) (q _ hT)
/-! arguments that may be lists at names; flat results -/
theorem ea_nil {Φ : List Slot → List Slot → Prop} (h : Φ [] δ) : EvA K tNil δ Φ := fun B H σ F Q S k => k [] (fun _ => False) [] B H δ (Ex.refl _) (fun _ _ => rfl) (S.less fun a z => z.elim id False.elim) .nil (fun _ z => z.elim) h
theorem ea_cons {Φ : List Slot → List Slot → Prop} (h : EvS K ta δ fun s δ1 => EvA K tr δ1 fun ss δ2 => Φ (s :: ss) δ2) : EvA K (tCons ta tr) δ Φ := fun B H σ F Q S k =>
  h B H σ F _ S fun v M s B1 H1 δ1 e1 f1 S1 w1 n1 p1 => p1 B1 H1 σ _ _ S1 fun vs M2 ss B2 H2 δ2 e2 f2 S2 w2 n2 p2 =>
    k (v :: vs) (fun a => M a ∨ M2 a) (s :: ss) B2 H2 δ2 (e1.trans e2) (fun a z => (f2 a (.inl z)).trans (f1 a z)) (S2.less fun a z => z.elim (fun z => .inl (.inl z)) fun z => z.elim (fun z => .inl (.inr z)) .inr) (.cons (w1.step e2 fun a z => f2 a (.inr z)) (fun a z z2 => n2 a z2 (.inr z)) w2) (fun a z f => z.elim (fun z => n1 a z f) fun z => n2 a z (.inl f)) p2
/-- the arguments denote data now -/
inductive DenA (K : PySem.W.Frag) (δ : List Slot) : List Slot → List PyData → Prop
  | nil : DenA K δ [] []
  | cons {s : Slot} {d : PyData} {ss : List Slot} {ds : List PyData} : den K δ s d → DenA K δ ss ds → DenA K δ (s :: ss) (d :: ds)
theorem aok_dp {B H : Hp} {σ : L2.St} {ss : List Slot} {F' : Addr → Prop} {vs : List V} {M : Addr → Prop} (S : Sd K B H σ δ F') (h : AOk K σ δ B H vs ss M) : ∀ {ds : List PyData}, DenA K δ ss ds → DpAll K H vs ds := by
  induction h with
  | nil => intro ds hd; cases hd; exact .nil
  | cons h1 h2 h3 ih =>
    intro ds hd
    cases hd with
    | cons a b => exact .cons ((den_dr S h1 a).dp S.bh) (ih b)
theorem ev_callF {n : Nat} {pre : List PyData → Prop} {T : List PyData → Rt → Prop} {E : XK} {Φ : Slot → List Slot → Prop} (h : EvA K tr δ fun ss δ1 => ∃ ds, DenA K δ1 ss ds ∧ ds.length = n ∧ pre ds ∧ ∀ r, T ds r → r.flat = true ∧ Φ (r.slot K) δ1) : EvS K (tCall (spP K n pre T) [] E tr) δ Φ := fun B H σ F Q S k =>
  h B H σ F _ S fun vs M ss B2 H2 δ1 e f S2' w nn ⟨ds, hds, hn, hp, q⟩ => by
    show spP K n pre T (vs ++ []) H2 Q E
    rw [List.append_nil]
    have ha := aok_dp S2' w hds
    have S2 : Sd K B2 H2 σ δ1 F := S2'.less fun a z => .inl z
    refine ⟨H2, ds, Ex.refl _, ha, hn, hp, fun v B3 H3 r g' hr hT => ?_⟩
    have g : Gr B2 H2 B2 H3 := ⟨Ex.refl _, g'.h, S2.bh.trans g'.h, fun _ _ z => .inl z⟩
    have f3 : ∀ a, F a → H3 a = H a := fun a z => (ex_eq g.h (S2.fl a z)).trans (f a z)
    obtain ⟨fl, qq⟩ := q r hT
    cases r with
    | d z => exact k v (fun _ => False) (.pu z) B2 H3 δ1 e f3 ((S2.grow g).less fun a z => z.elim id False.elim) ⟨dp_any fl hr, fun _ z => z⟩ (fun _ z => z.elim) qq
    | l zs =>
      obtain ⟨p, xs, rfl, hp, hb, h3, hx⟩ := hr
      exact k (.ref p) (fun a => a = p) (.ow (RL K zs)) B2 H3 δ1 e f3 (sd_fresh S2 g hp (exnone S2.bh hp) (by rw [h3]; exact fun z => nomatch z)) ⟨p, xs, rfl, h3, dpa_any fl hx, fun _ => Iff.rfl⟩ (fun a z z2 => S2.fl a z2 (by rw [z]; exact hp)) qq
/-! ### a def's body keeps its promise -/
def RtS (K : PySem.W.Frag) (T : Rt → Prop) (s : Slot) (δ : List Slot) : Prop :=
  (∃ z, s = .pu z ∧ T (.d z)) ∨ ∃ zs, (s = .ow (RL K zs) ∨ ∃ i, s = .al i ∧ δ[i]? = some (.ow (RL K zs))) ∧ T (.l zs)
theorem rt_d {T : Rt → Prop} {z : PyData} (h : T (.d z)) : RtS K T (.pu z) δ := .inl ⟨z, rfl, h⟩
theorem rt_l {T : Rt → Prop} {zs : List PyData} (h : T (.l zs)) : RtS K T (.ow (RL K zs)) δ := .inr ⟨zs, .inl rfl, h⟩
theorem rt_al {T : Rt → Prop} {i : Nat} {zs : List PyData} (hi : δ[i]? = some (.ow (RL K zs))) (h : T (.l zs)) : RtS K T (.al i) δ := .inr ⟨zs, .inr ⟨i, rfl, hi⟩, h⟩
theorem nn_of {H : Hp} {a : Addr} {o : HO} (h : H a = some o) : H a ≠ none := by rw [h]; exact fun z => nomatch z
def FrB (B H : Hp) (a : Addr) : Prop := H a ≠ none ∧ B a = none
theorem sd_start {B H : Hp} {vs : List V} {ds : List PyData} {N : List Str} (e : Ex B H) (ha : DpAll K B vs ds) : Sd K B H (L2.start N vs) (ds.map Slot.pu ++ List.replicate (N.length - ds.length) Slot.non) (FrB B H) := by
  have hl := dpa_len ha
  refine ⟨e, by unfold L2.start; simp [hl], fun a z => z.2, fun a z => z.1, fun _ _ => False, fun i s hs => ?_, fun _ _ _ z => z.elim, fun _ _ z => z.elim, fun _ _ z => z.elim⟩
  unfold L2.start
  by_cases h : i < ds.length
  · rw [List.getElem?_append_left (by rw [List.length_map]; exact h), List.getElem?_map] at hs
    cases hd : ds[i]? with
    | none => rw [hd] at hs; cases hs
    | some x =>
      rw [hd] at hs
      cases hs
      obtain ⟨v, hv, hx⟩ := dpa_get ha hd
      rw [List.getElem?_append_left (by rw [List.length_map, hl]; exact h), List.getElem?_map, hv]
      exact ⟨v, rfl, hx, fun _ z => z⟩
  · rw [List.getElem?_append_right (by rw [List.length_map]; omega)] at hs
    have e1 := List.mem_of_getElem? hs
    rw [List.eq_of_mem_replicate e1]
    exact fun _ z => z
theorem gr_end {B H B2 H2 : Hp} {σ : L2.St} (eB : Ex B H) (e : Ex B B2) (f : ∀ a, FrB B H a → H2 a = H a) (S : Sd K B2 H2 σ δ (FrB B H)) : Gr B H B2 H2 := by
  refine ⟨e, fun a o h => ?_, S.bh, fun a o h => ?_⟩
  · cases hb : B a with
    | none => rw [f a ⟨nn_of h, hb⟩]; exact h
    | some o' =>
      have e1 := eB a o' hb
      rw [h] at e1
      cases e1
      exact S.bh a o (e a o hb)
  · cases hb : B a with
    | some o' => exact .inl (by rw [e a o' hb] at h; exact h)
    | none =>
      refine .inr ?_
      cases hh : H a with
      | none => rfl
      | some u => rw [S.fb a ⟨nn_of hh, hb⟩] at h; cases h
theorem body_P {n : Nat} {pre : List PyData → Prop} {T : List PyData → Rt → Prop} {N : List Str} {vs : List V} {H : Hp} {Q : VK} {E : XK} (h : spP K n pre T vs H Q E)
    (hx : ∀ ds, ds.length = n → pre ds → ExS K t { nx := fun _ => T ds (.d .none), rt := RtS K (T ds) } (ds.map Slot.pu ++ List.replicate (N.length - ds.length) Slot.non)) : t { nx := fun _ H' => Q .non H', rt := Q } (L2.start N vs) H := by
  obtain ⟨B, ds, eB, ha, hn, hp, q⟩ := h
  refine hx ds hn hp B H (L2.start N vs) (FrB B H) _ (sd_start eB ha) ⟨fun B2 H2 σ2 δ2 e f S p => q .non B2 H2 (.d .none) (gr_end eB e f S) .non p, fun _ _ _ _ _ _ _ z => z.elim, fun _ _ _ _ _ _ _ z => z.elim, fun v M s B2 H2 σ2 δ2 e f S w n p => ?_⟩
  have S' : Sd K B2 H2 σ2 δ2 (FrB B H) := S.less fun a z => .inl z
  have g := gr_end eB e f S'
  rcases p with ⟨z, rfl, hT⟩ | ⟨zs, hs, hT⟩
  · exact q v B2 H2 (.d z) g w.1 hT
  · rcases hs with rfl | ⟨i, rfl, hi⟩
    · obtain ⟨p, xs, rfl, h3, hx, hM⟩ := w
      have hb : B2 p = none := S.fb p (.inr ((hM p).mpr rfl))
      refine q _ B2 H2 (.l zs) g ⟨p, xs, rfl, ?_, hb, h3, hx⟩ hT
      cases hh : H p with
      | none => rfl
      | some u => exact absurd ⟨nn_of hh, exnone e hb⟩ (n p ((hM p).mpr rfl))
    · obtain ⟨v', M', ev, ⟨p, xs, rfl, h3, hx, hM⟩, hb, hF, _⟩ := S'.opn hi
      rw [w.1] at ev
      cases ev
      have hb' : B2 p = none := hb p ((hM p).mpr rfl)
      refine q _ B2 H2 (.l zs) g ⟨p, xs, rfl, ?_, hb', h3, hx⟩ hT
      cases hh : H p with
      | none => rfl
      | some u => exact absurd ⟨nn_of hh, exnone e hb'⟩ (hF p ((hM p).mpr rfl))
end
/-! ### a def by its name -/
structure Cal (P : Program) (w : World) (K : PySem.W.Frag) (mg : Str → Option Value) (base : Heap) (k : Nat) (x : Str) (sp : Sp) : Prop where
  ex : ∃ (f : Addr) (fd : FuncData) (ps : List Str), FnOk P w K mg base CX0 k f fd ps sp ∧ mg x = some (.ref f) ∧ PySem.W.keepIn K (.ref f) = true ∧ Binds K fd ps []
theorem pe_c {X : Cx} {k j : Nat} {x : Str} {sp : Sp} {p pos : Pos} {e : Expr} {es : List Expr} {t : TA} (c : Cal X.prog X.w X.K X.mg X.base k x sp) (hr : Room j X.A) (ha : PA X (e :: es) t) (hk : k ≤ j := by decide) (hg : Gl X x := by rfl)
    (hdb : (x == ("__debug__" : Str)) = false := by decide) (he : starEach (e :: es) X.env = (false, eval e X.env) :: starEach es X.env := by rfl) (hpl : (backTo pos (starEach es X.env)).any (·.1) = false := by rfl) :
    PE X (.Call (.Name x p) (e :: es) [] pos) (tCall sp [] E0 t) := by
  obtain ⟨f, fd, ps, F, hm, kp, b⟩ := c.ex
  exact pe_call F (hr.mono hk) hg hm kp b .nil pass0 ha hdb he hpl
theorem cal_P {P : Program} {w : World} {K : PySem.W.Frag} {mg : Str → Option Value} {base : Heap} {x : Str} {st : Stmt} {f : Addr} {fd : FuncData} {N ps : List Str} {k n : Nat} {pre : List PyData → Prop} {T : List PyData → Rt → Prop}
    (F : Fun K x x st f fd) (hm : mg x = some (.ref f)) (hb : Binds K fd ps []) (S : FnScope N ps (defScope st)) (hn : ps.length = n := by rfl)
    (hbody : ∀ (cdv : Value) (A : Around) (outer : List Env) (s : Shared) (H : Hp) (E : XK), Room k (A.deeper (envOfC x (defScope st) s.heap.objs.size f cdv)) →
      ∃ t, PSs (cxOf CX0 P w K mg base N x (defScope st) f cdv A outer s H E).nox (defBody st) t ∧ ∀ ds, ds.length = n → pre ds → ExS K t { nx := fun _ => T ds (.d .none), rt := RtS K (T ds) } (ds.map Slot.pu ++ List.replicate (N.length - ds.length) Slot.non)) : Cal P w K mg base (k + 1) x (spP K n pre T) := by
  refine ⟨f, fd, ps, F.ok S (fun vs H Q E h => by rw [spP_len h, hn]) (fun cdv A outer s H vs Q E hr h => ?_), hm, F.kp, hb⟩
  obtain ⟨t, ht, hx⟩ := hbody cdv A outer s H E hr
  exact ⟨t, ht, body_P h hx⟩
end Dl

namespace Dl
open PySem PySem.Spec PyProof.Rows L2
open Evl (Ex)
section
variable {K : PySem.W.Frag} {δ : List Slot} {te ta tb tc : TE} {tr : TA} {tt : TT} {t u : TS} {d : Dn} {Φ : Slot → List Slot → Prop}
theorem dr_seq {B H : Hp} {v : V} {ds : List PyData} (e : Ex B H) (h : Dr K B H v (.list ds) ∨ Dr K B H v (.tuple ds)) : ∃ p xs, v = .ref p ∧ (SqL K H p xs ∨ SqT K H p xs) ∧ DpAll K B xs ds := by
  rcases h with h | h
  · obtain ⟨p, xs, rfl, a, b⟩ := h.lst e
    exact ⟨p, xs, rfl, .inl a, b⟩
  · obtain ⟨p, xs, rfl, a, b⟩ := h.tup e
    exact ⟨p, xs, rfl, .inr a, b⟩
/-- a call of a built-in with one argument, as an operation -/
theorem ev_cb1P {r : List V → Hp → VK → Prop} (h : EvS K ta δ fun s δ1 => ∃ x z, den K δ1 s x ∧ UnP K (fun v => r [v]) x z ∧ Φ (.pu z) δ1) : EvS K (tCB r (tCons ta tNil)) δ Φ := ev_unP (r := fun v => r [v]) h
theorem ev_cb1L {r : List V → Hp → VK → Prop} (h : EvS K ta δ fun s δ1 => ∃ x zs, den K δ1 s x ∧ UnL K (fun v => r [v]) x zs ∧ Φ (.ow (RL K zs)) δ1) : EvS K (tCB r (tCons ta tNil)) δ Φ := ev_unL (r := fun v => r [v]) h
/-- .. whose result is one of several -/
theorem ev_unA {r : R1} (h : EvS K ta δ fun s1 δ1 => ∃ x, den K δ1 s1 x ∧ ∃ T : PyData → Prop, (∀ (B H : Hp) (u : V) (Q : VK), Ex B H → Dr K B H u x → (∀ z, T z → flatD z = true → Q (valD z) H) → r u H Q) ∧ ∀ z, T z → Φ (.pu z) δ1) : EvS K (fun σ H Q => ta σ H fun x H1 => r x H1 Q) δ Φ := fun B H σ F Q S k =>
  h B H σ F _ S fun v2 M2 s2 B2 H2 δ2 e2 f2 S2 w2 n2 ⟨x, hd, T, hO, q⟩ => hO B2 H2 v2 Q S2.bh (den_dr S2 w2 hd) fun z hT fz =>
    k _ (fun _ => False) (.pu z) B2 H2 δ2 e2 f2 (S2.less fun a z => z.elim .inl False.elim) ⟨dp_flat fz, fun _ z => z⟩ (fun _ z => z.elim) (q z hT)
/-- .. a new list, one of several -/
theorem ev_unAL {r : R1} (h : EvS K ta δ fun s1 δ1 => ∃ x, den K δ1 s1 x ∧ ∃ T : List PyData → Prop, (∀ (B H : Hp) (u : V) (Q : VK), Ex B H → Dr K B H u x → (∀ zs p xs, T zs → H p = none → DpAll K B xs zs → Q (.ref p) (upd H p (.lst xs))) → r u H Q) ∧ ∀ zs, T zs → Φ (.ow (RL K zs)) δ1) : EvS K (fun σ H Q => ta σ H fun x H1 => r x H1 Q) δ Φ := fun B H σ F Q S k =>
  h B H σ F _ S fun v2 M2 s2 B2 H2 δ2 e2 f2 S2 w2 n2 ⟨x, hd, T, hO, q⟩ => by
    have SF : Sd K B2 H2 σ δ2 F := S2.less fun a ha => .inl ha
    refine hO B2 H2 v2 Q S2.bh (den_dr S2 w2 hd) fun zs p xs hT hp hz => ?_
    refine k (.ref p) (fun a => a = p) (.ow (RL K zs)) B2 _ δ2 e2 (fun a ha => ?_) (sd_own SF hp) (rl_new hz) (fun a ha f => ?_) (q zs hT)
    · rw [upd_ne (fun z => SF.fl a ha (by rw [z]; exact hp)), f2 a ha]
    · rw [ha] at f; exact SF.fl p f hp
theorem den2 {B H : Hp} {v : V} {s : Slot} {ds : List PyData} (h : den K δ s (.list ds) ∨ den K δ s (.tuple ds)) : ∃ x, den K δ s x ∧ ∀ B H v, Dr K B H v x → Dr K B H v (.list ds) ∨ Dr K B H v (.tuple ds) := by
  rcases h with h | h
  · exact ⟨_, h, fun _ _ _ z => .inl z⟩
  · exact ⟨_, h, fun _ _ _ z => .inr z⟩
theorem ev_len (h : EvS K ta δ fun s δ1 => ∃ ds, (den K δ1 s (.list ds) ∨ den K δ1 s (.tuple ds)) ∧ Φ (.pu (.int (ds.length : Int))) δ1) : EvS K (tCB (fun xs H Q => ∃ p ys, xs = [.ref p] ∧ (SqL K H p ys ∨ SqT K H p ys) ∧ Q (.int ys.length) H) (tCons ta tNil)) δ Φ :=
  ev_cb1P (h.imp fun s δ1 ⟨ds, h1, q⟩ => by
    obtain ⟨x, hx, k⟩ := den2 (B := fun _ => none) (H := fun _ => none) (v := .non) h1
    refine ⟨x, .int (ds.length : Int), hx, unP_flat rfl fun B H u Q e dd kk => ?_, q⟩
    obtain ⟨p, xs, rfl, hs, ha⟩ := dr_seq e (k B H u dd)
    refine ⟨p, xs, rfl, hs, ?_⟩
    rw [dpa_len ha]
    exact kk)
theorem ev_lenS (h : EvS K ta δ fun s δ1 => ∃ z : Str, s = .pu (.str z) ∧ z.length ≤ sizeLine ∧ Φ (.pu (.int (z.length : Int))) δ1) : EvS K (tCB (fun xs H Q => ∃ z, xs = [.str z] ∧ z.length ≤ sizeLine ∧ Q (.int z.length) H) (tCons ta tNil)) δ Φ :=
  ev_cb1P (h.imp fun s δ1 ⟨z, h1, hl, q⟩ => ⟨.str z, .int (z.length : Int), .inl h1, unP_flat rfl fun B H u Q e dd kk => ⟨z, by rw [dr_str dd], hl, kk⟩, q⟩)
theorem ev_list (h : EvS K ta δ fun s δ1 => ∃ ds, (den K δ1 s (.list ds) ∨ den K δ1 s (.tuple ds)) ∧ Φ (.ow (RL K ds)) δ1) : EvS K (tCB (fun xs H Q => ∃ p ys, xs = [.ref p] ∧ (SqL K H p ys ∨ SqT K H p ys) ∧ ∀ l, H l = none → Q (.ref l) (upd H l (.lst ys))) (tCons ta tNil)) δ Φ :=
  ev_cb1L (h.imp fun s δ1 ⟨ds, h1, q⟩ => by
    obtain ⟨x, hx, k⟩ := den2 (B := fun _ => none) (H := fun _ => none) (v := .non) h1
    refine ⟨x, ds, hx, fun B H u Q e dd kk => ?_, q⟩
    obtain ⟨p, xs, rfl, hs, ha⟩ := dr_seq e (k B H u dd)
    exact ⟨p, xs, rfl, hs, fun l hl => kk l xs hl ha⟩)
theorem ev_tuple (h : EvS K ta δ fun s δ1 => ∃ ds, (den K δ1 s (.list ds) ∨ s = .pu (.tuple ds)) ∧ ds.length ≤ 100000 ∧ Φ (.pu (.tuple ds)) δ1) : EvS K (tThen ta (kTup K)) δ Φ :=
  ev_unP (r := kTup K) (h.imp fun s δ1 ⟨ds, h1, hz, q⟩ => by
    rcases h1 with h1 | h1
    · refine ⟨.list ds, .tuple ds, h1, fun B H u Q e dd kk => ?_, q⟩
      obtain ⟨p, xs, rfl, hs, ha⟩ := dd.lst e
      refine .inl ⟨p, xs, rfl, hs, fun l hl => ?_⟩
      have g := Gr.new (o := .tup xs) e hl
      exact kk _ _ _ g (.tup (SqT.of upd_same) (dpa_mono g.b _ _ ha))
    · refine ⟨.tuple ds, .tuple ds, .inl h1, fun B H u Q e dd kk => ?_, q⟩
      have dd' := dd
      obtain ⟨p, xs, rfl, hs, ha⟩ := dd.tup e
      rcases dd' with dd' | ⟨_, _, _, _, z, _⟩
      · exact .inr ⟨p, xs, rfl, hs, kk _ B H (Gr.refl e) dd'⟩
      · cases z)
theorem lst_ints {B H : Hp} {v : V} {ns : List Int} (e : Ex B H) (h : Dr K B H v (.list (ns.map PyData.int))) : ∃ p, v = .ref p ∧ SqL K H p (ns.map V.int) := by
  obtain ⟨p, xs, rfl, hs, ha⟩ := h.lst e
  rw [dpa_ints_inv ha] at hs
  exact ⟨p, rfl, hs⟩
theorem ev_sorted (h : EvS K ta δ fun s δ1 => ∃ ns : List Int, den K δ1 s (.list (ns.map PyData.int)) ∧ ∀ ns' : List Int, ns'.Perm ns → ns'.Pairwise (· ≤ ·) → Φ (.ow (RL K (ns'.map PyData.int))) δ1) : EvS K (tCB (rSortedI K) (tCons ta tNil)) δ Φ :=
  ev_unAL (r := fun v => rSortedI K [v]) (h.imp fun s δ1 ⟨ns, h1, q⟩ => ⟨_, h1, fun zs => ∃ ns' : List Int, zs = ns'.map PyData.int ∧ ns'.Perm ns ∧ ns'.Pairwise (· ≤ ·), fun B H u Q e dd kk => by
    obtain ⟨p, rfl, hs⟩ := lst_ints e dd
    exact ⟨p, ns, rfl, hs, fun ns' l h2 h3 hl => kk _ l _ ⟨ns', rfl, h2, h3⟩ hl (dpa_ints ns')⟩, fun zs ⟨ns', e, h2, h3⟩ => by rw [e]; exact q ns' h2 h3⟩)
theorem ev_max (h : EvS K ta δ fun s δ1 => ∃ ns : List Int, den K δ1 s (.list (ns.map PyData.int)) ∧ 0 < ns.length ∧ ∀ m, m ∈ ns → (∀ y, y ∈ ns → y ≤ m) → Φ (.pu (.int m)) δ1) : EvS K (tCB (rMax K) (tCons ta tNil)) δ Φ :=
  ev_unA (r := fun v => rMax K [v]) (h.imp fun s δ1 ⟨ns, h1, h0, q⟩ => ⟨_, h1, fun z => ∃ m, z = .int m ∧ m ∈ ns ∧ ∀ y, y ∈ ns → y ≤ m, fun B H u Q e dd kk => by
    obtain ⟨p, rfl, hs⟩ := lst_ints e dd
    exact ⟨p, ns, rfl, hs, h0, fun m h2 h3 => kk (.int m) ⟨m, rfl, h2, h3⟩ rfl⟩, fun z ⟨m, e, h2, h3⟩ => by rw [e]; exact q m h2 h3⟩)
theorem ev_min (h : EvS K ta δ fun s δ1 => ∃ ns : List Int, den K δ1 s (.list (ns.map PyData.int)) ∧ 0 < ns.length ∧ ∀ m, m ∈ ns → (∀ y, y ∈ ns → m ≤ y) → Φ (.pu (.int m)) δ1) : EvS K (tCB (rMin K) (tCons ta tNil)) δ Φ :=
  ev_unA (r := fun v => rMin K [v]) (h.imp fun s δ1 ⟨ns, h1, h0, q⟩ => ⟨_, h1, fun z => ∃ m, z = .int m ∧ m ∈ ns ∧ ∀ y, y ∈ ns → m ≤ y, fun B H u Q e dd kk => by
    obtain ⟨p, rfl, hs⟩ := lst_ints e dd
    exact ⟨p, ns, rfl, hs, h0, fun m h2 h3 => kk (.int m) ⟨m, rfl, h2, h3⟩ rfl⟩, fun z ⟨m, e, h2, h3⟩ => by rw [e]; exact q m h2 h3⟩)
theorem ev_sum (h : EvS K ta δ fun s δ1 => ∃ ns : List Int, den K δ1 s (.list (ns.map PyData.int)) ∧ Φ (.pu (.int ns.sum)) δ1) : EvS K (tCB (rSum K) (tCons ta tNil)) δ Φ :=
  ev_cb1P (h.imp fun s δ1 ⟨ns, h1, q⟩ => ⟨_, .int ns.sum, h1, unP_flat rfl fun B H u Q e dd kk => by
    obtain ⟨p, rfl, hs⟩ := lst_ints e dd
    exact ⟨p, ns, rfl, hs, kk⟩, q⟩)
theorem dpa_bl_inv {H : Hp} : ∀ {ns : List Bool} {vs : List V}, DpAll K H vs (ns.map PyData.bool) → vs = ns.map V.bl
  | [], _, h => by cases h; rfl
  | n :: r, _, h => by
    cases h with
    | cons h1 h2 =>
      cases h1
      rw [dpa_bl_inv h2]
      rfl
theorem ev_all (h : EvS K ta δ fun s δ1 => ∃ bs : List Bool, den K δ1 s (.list (bs.map PyData.bool)) ∧ Φ (.pu (.bool (bs.all id))) δ1) : EvS K (tCB (rAll K) (tCons ta tNil)) δ Φ :=
  ev_cb1P (h.imp fun s δ1 ⟨ns, h1, q⟩ => ⟨_, .bool (ns.all id), h1, unP_flat rfl fun B H u Q e dd kk => by
    obtain ⟨p, xs, rfl, hs, ha⟩ := dd.lst e
    rw [dpa_bl_inv ha] at hs
    exact ⟨p, ns, rfl, hs, kk⟩, q⟩)
theorem ev_abs (h : EvS K ta δ fun s δ1 => ∃ i : Int, s = .pu (.int i) ∧ Φ (.pu (.int (if i < 0 then -i else i))) δ1) : EvS K (tCB (fun xs H Q => ∃ i, xs = [.int i] ∧ Q (.int (if i < 0 then -i else i)) H) (tCons ta tNil)) δ Φ :=
  ev_cb1P (h.imp fun s δ1 ⟨i, h1, q⟩ => ⟨_, .int (if i < 0 then -i else i), .inl h1, unP_flat rfl fun B H u Q e dd kk => ⟨i, by rw [dr_int dd], kk⟩, q⟩)
theorem ev_strI (h : EvS K ta δ fun s δ1 => ∃ i : Int, s = .pu (.int i) ∧ i.natAbs.log2 < 1920 ∧ Φ (.pu (.str (Str.ofString (toString i)))) δ1) : EvS K (tCB (fun xs H Q => ∃ i, xs = [.int i] ∧ i.natAbs.log2 < 1920 ∧ Q (.str (Str.ofString (toString i))) H) (tCons ta tNil)) δ Φ :=
  ev_cb1P (h.imp fun s δ1 ⟨i, h1, hl, q⟩ => ⟨_, .str (Str.ofString (toString i)), .inl h1, unP_flat rfl fun B H u Q e dd kk => ⟨i, by rw [dr_int dd], hl, kk⟩, q⟩)
theorem ev_intB (h : EvS K ta δ fun s δ1 => ∃ b : Bool, s = .pu (.bool b) ∧ Φ (.pu (.int (if b then 1 else 0))) δ1) : EvS K (tCB (fun xs H Q => (∃ i, xs = [.int i] ∧ Q (.int i) H) ∨ ∃ k, xs = [.bl k] ∧ Q (.int (b2i k)) H) (tCons ta tNil)) δ Φ :=
  ev_cb1P (h.imp fun s δ1 ⟨b, h1, q⟩ => ⟨_, .int (if b then 1 else 0), .inl h1, unP_flat rfl fun B H u Q e dd kk => .inr ⟨b, by rw [dr_bl dd], by cases b <;> exact kk⟩, q⟩)
/-- two ints -/
theorem ev_cb2I {g : Int → Int → Int} (h : EvS K ta δ fun s1 δ1 => EvS K tb δ1 fun s2 δ2 => ∃ i j, s1 = .pu (.int i) ∧ s2 = .pu (.int j) ∧ Φ (.pu (.int (g i j))) δ2) : EvS K (tCB (fun xs H Q => ∃ i j, xs = [.int i, .int j] ∧ Q (.int (g i j)) H) (tCons ta (tCons tb tNil))) δ Φ :=
  ev_opP (r := fun u v H Q => ∃ i j, [u, v] = [V.int i, V.int j] ∧ Q (.int (g i j)) H) (h.imp fun s1 δ1 h1 => h1.imp fun s2 δ2 ⟨i, j, e1, e2, q⟩ => ⟨.int i, .int j, .int (g i j), .inl e1, .inl e2, opP_flat rfl fun B H u v Q e d1 d2 k => ⟨i, j, by rw [dr_int d1, dr_int d2], k⟩, q⟩)
/-! ### isinstance -/
def tyN : PyData → String
  | .none => "NoneType" | .bool _ => "bool" | .int _ => "int" | .str _ => "str" | .list _ => "list" | .tuple _ => "tuple" | .dict _ => "dict"
theorem ty_of {H : Hp} {v : V} {x : PyData} (h : Dp K H v x) : TyX K H v (.type (tyN x)) := by
  cases h with
  | non => exact .base .non
  | bl b => exact .base (.bl b)
  | int i => exact .base (.int i)
  | str s => exact .base (.str s)
  | lst hs _ =>
    rcases hs with (h | ⟨o, h⟩) | ⟨o, its, n, hk, hc, _⟩
    · exact .base (.lst h)
    · exact .base (.frz h)
    · exact .kList hk hc
  | tup hs _ =>
    rcases hs with (h | ⟨o, h⟩) | ⟨o, its, n, hk, hc, _⟩
    · exact .base (.tup h)
    · exact .fTuple h
    · exact .kTuple hk hc
def isiD (x : PyData) (n : String) : Bool := (kitB (tyN x) n).getD false
def TyGood (n : String) : Prop := ∀ x : PyData, (∀ kv, x ≠ .dict kv) → kitB (tyN x) n = some (isiD x n)
theorem good_ty {n : String} (h : (kitB "NoneType" n).isSome = true ∧ (kitB "bool" n).isSome = true ∧ (kitB "int" n).isSome = true ∧ (kitB "str" n).isSome = true ∧ (kitB "list" n).isSome = true ∧ (kitB "tuple" n).isSome = true) : TyGood n := by
  have k : ∀ m, (kitB m n).isSome = true → kitB m n = some ((kitB m n).getD false) := fun m hm => by
    obtain ⟨b, hb⟩ := Option.isSome_iff_exists.mp hm
    rw [hb]
    rfl
  obtain ⟨h1, h2, h3, h4, h5, h6⟩ := h
  intro x hx
  cases x with
  | none => exact k _ h1
  | bool _ => exact k _ h2
  | int _ => exact k _ h3
  | str _ => exact k _ h4
  | list _ => exact k _ h5
  | tuple _ => exact k _ h6
  | dict kv => exact absurd rfl (hx kv)
theorem good_int : TyGood "int" := good_ty (by decide +kernel)
theorem good_bool : TyGood "bool" := good_ty (by decide +kernel)
theorem good_str : TyGood "str" := good_ty (by decide +kernel)
theorem good_list : TyGood "list" := good_ty (by decide +kernel)
theorem good_tuple : TyGood "tuple" := good_ty (by decide +kernel)
def isInt : PyData → Bool | .int _ => true | .bool _ => true | _ => false
def isBool : PyData → Bool | .bool _ => true | _ => false
def isStr : PyData → Bool | .str _ => true | _ => false
def isList : PyData → Bool | .list _ => true | _ => false
def isTup : PyData → Bool | .tuple _ => true | _ => false
theorem isi_int {x : PyData} (hx : ∀ kv, x ≠ .dict kv) : isiD x "int" = isInt x := by
  cases x with
  | none => show (kitB "NoneType" "int").getD false = false; decide +kernel
  | bool _ => show (kitB "bool" "int").getD false = true; decide +kernel
  | int _ => show (kitB "int" "int").getD false = true; decide +kernel
  | str _ => show (kitB "str" "int").getD false = false; decide +kernel
  | list _ => show (kitB "list" "int").getD false = false; decide +kernel
  | tuple _ => show (kitB "tuple" "int").getD false = false; decide +kernel
  | dict kv => exact absurd rfl (hx kv)
theorem isi_bool {x : PyData} (hx : ∀ kv, x ≠ .dict kv) : isiD x "bool" = isBool x := by
  cases x with
  | none => show (kitB "NoneType" "bool").getD false = false; decide +kernel
  | bool _ => show (kitB "bool" "bool").getD false = true; decide +kernel
  | int _ => show (kitB "int" "bool").getD false = false; decide +kernel
  | str _ => show (kitB "str" "bool").getD false = false; decide +kernel
  | list _ => show (kitB "list" "bool").getD false = false; decide +kernel
  | tuple _ => show (kitB "tuple" "bool").getD false = false; decide +kernel
  | dict kv => exact absurd rfl (hx kv)
theorem isi_str {x : PyData} (hx : ∀ kv, x ≠ .dict kv) : isiD x "str" = isStr x := by
  cases x with
  | none => show (kitB "NoneType" "str").getD false = false; decide +kernel
  | bool _ => show (kitB "bool" "str").getD false = false; decide +kernel
  | int _ => show (kitB "int" "str").getD false = false; decide +kernel
  | str _ => show (kitB "str" "str").getD false = true; decide +kernel
  | list _ => show (kitB "list" "str").getD false = false; decide +kernel
  | tuple _ => show (kitB "tuple" "str").getD false = false; decide +kernel
  | dict kv => exact absurd rfl (hx kv)
theorem isi_list {x : PyData} (hx : ∀ kv, x ≠ .dict kv) : isiD x "list" = isList x := by
  cases x with
  | none => show (kitB "NoneType" "list").getD false = false; decide +kernel
  | bool _ => show (kitB "bool" "list").getD false = false; decide +kernel
  | int _ => show (kitB "int" "list").getD false = false; decide +kernel
  | str _ => show (kitB "str" "list").getD false = false; decide +kernel
  | list _ => show (kitB "list" "list").getD false = true; decide +kernel
  | tuple _ => show (kitB "tuple" "list").getD false = false; decide +kernel
  | dict kv => exact absurd rfl (hx kv)
theorem isi_tup {x : PyData} (hx : ∀ kv, x ≠ .dict kv) : isiD x "tuple" = isTup x := by
  cases x with
  | none => show (kitB "NoneType" "tuple").getD false = false; decide +kernel
  | bool _ => show (kitB "bool" "tuple").getD false = false; decide +kernel
  | int _ => show (kitB "int" "tuple").getD false = false; decide +kernel
  | str _ => show (kitB "str" "tuple").getD false = false; decide +kernel
  | list _ => show (kitB "list" "tuple").getD false = false; decide +kernel
  | tuple _ => show (kitB "tuple" "tuple").getD false = true; decide +kernel
  | dict kv => exact absurd rfl (hx kv)
theorem dp_nodict {H : Hp} {v : V} {x : PyData} (h : Dp K H v x) : ∀ kv, x ≠ .dict kv := by
  intro kv e
  subst e
  cases h
theorem ev_isi {n : String} {f : PyData → Bool} (g : TyGood n) (gf : ∀ x, (∀ kv, x ≠ .dict kv) → isiD x n = f x) (h : EvS K ta δ fun s δ1 => ∃ x, den K δ1 s x ∧ Φ (.pu (.bool (f x))) δ1) : EvS K (tCB (rIsi K) (tCons ta (tCons (tC (.ty n)) tNil))) δ Φ :=
  ev_unP (r := fun v => rIsi K [v, .ty n]) (h.imp fun s δ1 ⟨x, h1, q⟩ => ⟨x, .bool (f x), h1, unP_flat rfl fun B H u Q e dd kk => by
    have hd := dd.dp e
    have nd := dp_nodict hd
    exact ⟨u, .ty n, .type (tyN x), .type n, isiD x n, rfl, .ty n, ty_of hd, kit_ty (g x nd), by rw [gf x nd]; exact kk⟩, q⟩)
/-! ### list(range(..)), [x] * n, slices -/
theorem rgV_ints (a b : Int) : rgV a b = ((List.range (b - a).toNat).map fun i => a + ((i : Nat) : Int)).map V.int := by
  unfold rgV
  rw [List.map_map]
  rfl
def rgI (a b : Int) : List Int := (List.range (b - a).toNat).map fun i => a + ((i : Nat) : Int)
theorem ev_listRg1 (h : EvS K ta δ fun s δ1 => ∃ k : Int, s = .pu (.int k) ∧ 0 ≤ k ∧ k ≤ 16777216 ∧ Φ (.ow (RL K ((rgI 0 k).map PyData.int))) δ1) : EvS K (tLstRg (tRg1 ta)) δ Φ :=
  ev_unL (r := fun x H1 Q => ∃ n, x = .int n ∧ (RgOk 0 n ∧ ∀ q, H1 q = none → Q (.ref q) (upd H1 q (.lst (rgV 0 n))))) (h.imp fun s δ1 ⟨k, h1, k0, k1, q⟩ => ⟨_, _, .inl h1, fun B H u Q e dd kk => by
    refine ⟨k, dr_int dd, RgOk.of_le (Int.le_refl 0) k1 (by omega) k0, fun q hq => ?_⟩
    rw [rgV_ints]
    exact kk q _ hq (dpa_ints _), q⟩)
/-- contents read at once: an owned list -/
theorem vok_own {B H : Hp} {σ : L2.St} {F' M : Addr → Prop} {v : V} {s : Slot} {ds : List PyData} (S : Sd K B H σ δ F') (w : VOk K σ δ B H v M s) (h : s = .ow (RL K ds) ∨ ∃ i, s = .al i ∧ δ[i]? = some (.ow (RL K ds))) : ∃ p xs, v = .ref p ∧ H p = some (.lst xs) ∧ DpAll K B xs ds := by
  rcases h with rfl | ⟨i, rfl, hi⟩
  · obtain ⟨p, xs, rfl, hp, ha, _⟩ := w
    exact ⟨p, xs, rfl, hp, ha⟩
  · obtain ⟨v', M', ev, ⟨p, xs, rfl, hp, ha, _⟩, _⟩ := S.opn hi
    rw [w.1] at ev
    cases ev
    exact ⟨p, xs, rfl, hp, ha⟩
theorem dpa_rep {B : Hp} {xs : List V} {ds : List PyData} (h : DpAll K B xs ds) : ∀ n : Nat, DpAll K B (List.replicate n xs).flatten (List.replicate n ds).flatten
  | 0 => .nil
  | n + 1 => by
    rw [List.replicate_succ, List.replicate_succ, List.flatten_cons, List.flatten_cons]
    exact dpa_append h (dpa_rep h n)
theorem ev_rep (h : EvS K ta δ fun s1 δ1 => EvS K tb δ1 fun s2 δ2 => ∃ ds, ∃ k : Int, s1 = .ow (RL K ds) ∧ s2 = .pu (.int k) ∧ -(2 ^ 63) ≤ k ∧ k < 2 ^ 63 ∧ ds.length * k.toNat ≤ 100000 ∧ Φ (.ow (RL K (List.replicate k.toNat ds).flatten)) δ2) : EvS K (tOp rRep ta tb) δ Φ := fun B H σ F Q S kk =>
  h B H σ F _ S fun v1 M1 s1 B1 H1 δ1 e1 f1 S1 w1 n1 p1 => p1 B1 H1 σ _ _ S1 fun v2 M2 s2 B2 H2 δ2 e2 f2 S2 w2 n2 ⟨ds, k, es1, es2, k1, k2, hl, q⟩ => by
    subst es1 es2
    have w1' : (RL K ds).P v1 B2 H2 M1 := (RL K ds).loc w1 e2 fun a ha => f2 a (.inr ha)
    obtain ⟨p, xs, rfl, hp, ha, hM⟩ := w1'
    have SF : Sd K B2 H2 σ δ2 F := S2.less fun a ha => .inl (.inl ha)
    refine ⟨p, k, xs, rfl, dp_int_inv w2.1, hp, k1, k2, Evl.sz_of (by rw [dpa_len ha]; exact hl), fun r hr => ?_⟩
    refine kk (.ref r) (fun a => a = r) (.ow (RL K _)) B2 _ δ2 (e1.trans e2) (fun a ha => ?_) (sd_own SF hr) (rl_new (dpa_rep ha k.toNat)) (fun a ha f => ?_) q
    · rw [upd_ne (fun z => SF.fl a ha (by rw [z]; exact hr)), f2 a (.inl ha), f1 a ha]
    · rw [ha] at f; exact SF.fl r f hr
theorem ev_cat (h : EvS K ta δ fun s1 δ1 => EvS K tb δ1 fun s2 δ2 => ∃ ds es, (s1 = .ow (RL K ds) ∨ ∃ i, s1 = .al i ∧ δ2[i]? = some (.ow (RL K ds))) ∧ (s2 = .ow (RL K es) ∨ ∃ i, s2 = .al i ∧ δ2[i]? = some (.ow (RL K es))) ∧ ds.length + es.length ≤ 100000 ∧ Φ (.ow (RL K (ds ++ es))) δ2) : EvS K (tOp rCat ta tb) δ Φ := fun B H σ F Q S kk =>
  h B H σ F _ S fun v1 M1 s1 B1 H1 δ1 e1 f1 S1 w1 n1 p1 => p1 B1 H1 σ _ _ S1 fun v2 M2 s2 B2 H2 δ2 e2 f2 S2 w2 n2 ⟨ds, es, h1, h2, hl, q⟩ => by
    have w1' : VOk K σ δ2 B2 H2 v1 M1 s1 := w1.step e2 fun a ha => f2 a (.inr ha)
    obtain ⟨p, xs, rfl, hp, ha⟩ := vok_own S2 w1' h1
    obtain ⟨p2, ys, rfl, hp2, ha2⟩ := vok_own S2 w2 h2
    have SF : Sd K B2 H2 σ δ2 F := S2.less fun a ha => .inl (.inl ha)
    refine ⟨p, p2, xs, ys, rfl, rfl, hp, hp2, Evl.sz_of (by rw [dpa_len ha, dpa_len ha2]; exact hl), fun r hr => ?_⟩
    refine kk (.ref r) (fun a => a = r) (.ow (RL K _)) B2 _ δ2 (e1.trans e2) (fun a ha => ?_) (sd_own SF hr) (rl_new (dpa_append ha ha2)) (fun a ha f => ?_) q
    · rw [upd_ne (fun z => SF.fl a ha (by rw [z]; exact hr)), f2 a (.inl ha), f1 a ha]
    · rw [ha] at f; exact SF.fl r f hr
/-- parts of a slice -/
def EvO (K : PySem.W.Frag) (to : TO) (δ : List Slot) (Φ : Option Int → List Slot → Prop) : Prop :=
  ∀ (B H : Hp) (σ : L2.St) (F : Addr → Prop) (Q : Option Int → Hp → Prop), Sd K B H σ δ F →
    (∀ b B2 H2 δ2, Ex B B2 → (∀ a, F a → H2 a = H a) → Sd K B2 H2 σ δ2 F → Φ b δ2 → Q b H2) → to σ H Q
theorem eo_none {Φ : Option Int → List Slot → Prop} (h : Φ none δ) : EvO K tNoPart δ Φ := fun B H σ F Q S k => k none B H δ (Ex.refl _) (fun _ _ => rfl) S h
theorem eo_some {Φ : Option Int → List Slot → Prop} (h : EvS K ta δ fun s δ1 => ∃ i : Int, s = .pu (.int i) ∧ Φ (some i) δ1) : EvO K (tPart ta) δ Φ := fun B H σ F Q S k =>
  h B H σ F _ S fun v M s B2 H2 δ2 e f S2 w n ⟨i, es, q⟩ => by
    subst es
    exact ⟨i, dp_int_inv w.1, k (some i) B2 H2 δ2 e f (S2.less fun a z => .inl z) q⟩
def cutD (ds : List PyData) (lo hi : Option Int) : List PyData := (ds.drop (HT.sIx ds.length 0 lo)).take (HT.sIx ds.length ds.length hi - HT.sIx ds.length 0 lo)
theorem dpa_cut {B : Hp} {xs : List V} {ds : List PyData} {lo hi : Option Int} (h : DpAll K B xs ds) : DpAll K B (cutV xs lo hi) (cutD ds lo hi) := by
  unfold cutV cutD
  rw [dpa_len h]
  exact dpa_take _ (dpa_drop _ h)
theorem ev_slL {tl th : TO} (h : EvS K ta δ fun s δ1 => EvO K tl δ1 fun lo δ2 => EvO K th δ2 fun hi δ3 => ∃ ds, den K δ3 s (.list ds) ∧ Φ (.ow (RL K (cutD ds lo hi))) δ3) : EvS K (tSl (rSlL K) ta tl th) δ Φ := fun B H σ F Q S kk =>
  h B H σ F _ S fun v1 M1 s1 B1 H1 δ1 e1 f1 S1 w1 n1 p1 => p1 B1 H1 σ _ _ S1 fun lo B2 H2 δ2 e2 f2 S2 p2 => p2 B2 H2 σ _ _ S2 fun hi B3 H3 δ3 e3 f3 S3 ⟨ds, hd, q⟩ => by
    have w1' : VOk K σ δ3 B3 H3 v1 M1 s1 := w1.step (e2.trans e3) fun a ha => (f3 a (.inr ha)).trans (f2 a (.inr ha))
    obtain ⟨p, xs, rfl, hs, ha⟩ := (den_dr S3 w1' hd).lst S3.bh
    have SF : Sd K B3 H3 σ δ3 F := S3.less fun a ha => .inl ha
    refine ⟨p, xs, rfl, hs, fun r hr => ?_⟩
    refine kk (.ref r) (fun a => a = r) (.ow (RL K _)) B3 _ δ3 ((e1.trans e2).trans e3) (fun a ha => ?_) (sd_own SF hr) (rl_new (dpa_cut ha)) (fun a ha f => ?_) q
    · rw [upd_ne (fun z => SF.fl a ha (by rw [z]; exact hr)), f3 a (.inl ha), f2 a (.inl ha), f1 a ha]
    · rw [ha] at f; exact SF.fl r f hr
theorem ev_slT {tl th : TO} (h : EvS K ta δ fun s δ1 => EvO K tl δ1 fun lo δ2 => EvO K th δ2 fun hi δ3 => ∃ ds, s = .pu (.tuple ds) ∧ Φ (.pu (.tuple (cutD ds lo hi))) δ3) : EvS K (tSl (rSlA K) ta tl th) δ Φ := fun B H σ F Q S kk =>
  h B H σ F _ S fun v1 M1 s1 B1 H1 δ1 e1 f1 S1 w1 n1 p1 => p1 B1 H1 σ _ _ S1 fun lo B2 H2 δ2 e2 f2 S2 p2 => p2 B2 H2 σ _ _ S2 fun hi B3 H3 δ3 e3 f3 S3 ⟨ds, es, q⟩ => by
    subst es
    have w1' := dp_mono (e2.trans e3) _ _ w1.1
    have SF : Sd K B3 H3 σ δ3 F := S3.less fun a ha => .inl ha
    have w2 := w1'
    cases w1' with
    | @tup p xs _ hs ha =>
      refine ⟨p, xs, rfl, Evl.ex_t S3.bh hs, fun ⟨c1, c2⟩ => ?_, fun c r hr => ?_⟩
      · have hc : cutD ds lo hi = ds := by
          unfold cutD
          rw [← dpa_len ha, c1, c2, List.drop_zero, Nat.sub_zero, dpa_len ha, List.take_length]
        rw [hc] at q
        exact kk _ (fun _ => False) (.pu (.tuple ds)) B3 H3 δ3 ((e1.trans e2).trans e3) (fun a z => by rw [f3 a (.inl z), f2 a (.inl z), f1 a z]) (SF.less fun a z => z.elim id False.elim) ⟨w2, fun _ z => z⟩ (fun _ z => z.elim) q
      · have g := Gr.new (o := .tup (cutV xs lo hi)) S3.bh hr
        exact kk _ (fun _ => False) (.pu (.tuple (cutD ds lo hi))) _ _ δ3 (((e1.trans e2).trans e3).trans g.b) (fun a z => by rw [ex_eq g.h (SF.fl a z), f3 a (.inl z), f2 a (.inl z), f1 a z]) ((SF.grow g).less fun a z => z.elim id False.elim) ⟨.tup (SqT.of upd_same) (dpa_mono g.b _ _ (dpa_cut ha)), fun _ z => z⟩ (fun _ z => z.elim) q
end
end Dl

namespace Dl
open PySem PySem.Spec PyProof.Rows L2
open Evl (Ex)
section
variable {K : PySem.W.Frag} {w : World} {δ : List Slot} {te ta tb tc : TE} {tr : TA} {tt : TT} {t u : TS} {d : Dn} {Φ : Slot → List Slot → Prop}
theorem seq_ints {B H : Hp} {v : V} {ns : List Int} (e : Ex B H) (h : Dr K B H v (.list (ns.map PyData.int)) ∨ Dr K B H v (.tuple (ns.map PyData.int))) : ∃ p, v = .ref p ∧ (SqL K H p (ns.map V.int) ∨ SqT K H p (ns.map V.int)) := by
  obtain ⟨p, xs, rfl, hs, ha⟩ := dr_seq e h
  rw [dpa_ints_inv ha] at hs
  exact ⟨p, rfl, hs⟩
/-- sorted(set(xs)) of ints -/
theorem ev_sortedSetJ (h : EvS K te δ fun s δ1 => ∃ ns : List Int, (den K δ1 s (.list (ns.map PyData.int)) ∨ den K δ1 s (.tuple (ns.map PyData.int))) ∧ ns.length ≤ 1000 ∧ (∀ l : List Int, l.Nodup → (∀ k, k ∈ l ↔ k ∈ ns) → l.length < 64) ∧ ∀ ns' : List Int, ns'.Pairwise (· < ·) → (∀ k, k ∈ ns' ↔ k ∈ ns) → Φ (.ow (RL K (ns'.map PyData.int))) δ1) : EvS K (tCB (rSortedSet w) (tCons (tCB (Rk.rSetI K w) (tCons te tNil)) tNil)) δ Φ := fun B H σ F Q S kk =>
  h B H σ F _ S fun v M s B1 H1 δ1 e1 f1 S1 w1 n1 ⟨ns, hd, hl, h64, q⟩ => by
    have hdr : Dr K B1 H1 v (.list (ns.map PyData.int)) ∨ Dr K B1 H1 v (.tuple (ns.map PyData.int)) := hd.imp (den_dr S1 w1) (den_dr S1 w1)
    obtain ⟨p, rfl, hs⟩ := seq_ints S1.bh hdr
    have SF : Sd K B1 H1 σ δ1 F := S1.less fun a ha => .inl ha
    refine ⟨p, ns, rfl, hs, hl, fun r l hr hnd hmem => ?_⟩
    refine ⟨r, _, l.length, rfl, upd_same, h64 l hnd hmem, fun ns' r2 h1 h2 _ hr2 => ?_⟩
    have gr : Gr B1 H1 B1 (upd H1 r (SetO w r (fun j => decide (j ∈ ns)) l.length)) := Gr.own S1.bh hr
    have S2 := SF.grow gr
    refine kk (.ref r2) (fun a => a = r2) (.ow (RL K _)) B1 _ δ1 e1 (fun a ha => ?_) (sd_own S2 hr2) (rl_new (dpa_ints ns')) (fun a ha f => ?_) (q ns' h1 fun k => ?_)
    · rw [upd_ne (fun z => S2.fl a ha (by rw [z]; exact hr2)), ex_eq gr.h (SF.fl a ha), f1 a ha]
    · rw [ha] at f; exact S2.fl r2 f hr2
    · rw [h2 k, decide_eq_true_eq]
theorem nodup_sub : ∀ {l ns : List Int}, l.Nodup → (∀ k, k ∈ l → k ∈ ns) → l.length ≤ ns.length
  | [], _, _, _ => Nat.zero_le _
  | a :: l, ns, h, hs => by
    obtain ⟨h1, h2⟩ := List.nodup_cons.mp h
    have ha := hs a (List.mem_cons_self ..)
    have := nodup_sub (l := l) (ns := ns.erase a) h2 fun k hk => (List.mem_erase_of_ne (fun e => h1 (by rw [← e]; exact hk))).mpr (hs k (List.mem_cons_of_mem _ hk))
    rw [List.length_erase_of_mem ha] at this
    have := List.length_pos_of_mem ha
    rw [List.length_cons]
    omega
theorem ev_sortedSet (h : EvS K te δ fun s δ1 => ∃ ns : List Int, (den K δ1 s (.list (ns.map PyData.int)) ∨ den K δ1 s (.tuple (ns.map PyData.int))) ∧ ns.length < 64 ∧ ∀ ns' : List Int, ns'.Pairwise (· < ·) → (∀ k, k ∈ ns' ↔ k ∈ ns) → Φ (.ow (RL K (ns'.map PyData.int))) δ1) : EvS K (tCB (rSortedSet w) (tCons (tCB (Rk.rSetI K w) (tCons te tNil)) tNil)) δ Φ :=
  ev_sortedSetJ (h.imp fun s δ1 ⟨ns, h1, h2, h3⟩ => ⟨ns, h1, by omega, fun l hl hm => by have := nodup_sub hl fun k hk => (hm k).mp hk; omega, h3⟩)
/-- for i, x in enumerate(a tuple) -/
theorem xs_forET {g : TG} (h : EvD K te δ fun x δ1 => ∃ ds, x = .tuple ds ∧ ∃ Pv : Nat → List Slot → Prop, Pv 0 δ1 ∧ (∀ (i : Nat) y δ', ds[i]? = some y → Pv i δ' → Turn1 K g t d (.tuple [.int (i : Int), y]) (Pv (i + 1)) δ') ∧ ∀ δ', Pv ds.length δ' → d.nx δ') : ExS K (tFor (Rk.iEnumT K (tCons te tNil)) g t) d δ := fun B H σ F D S L =>
  h B H σ F _ S fun v x B2 H2 δ1 e f S2 hd ⟨ds, ex, Pv, h0, hs, hn⟩ => by
    subst ex
    cases hd with
    | @tup p xs _ hq ha =>
      have len := dpa_len ha
      refine ⟨p, xs, rfl, Evl.ex_t S2.bh hq, ?_⟩
      refine for_core (n := ds.length) (item := fun i => .tuple [.int (i : Int), ds.getD i .none]) Pv S2 F (fun a z => z) (L.step e f) h0 (fun i hi B' H' σ' δ' e' f' S' p' => ?_) (fun B' H' σ' δ' e' f' S' p' => ?_) (fun i δ' hi q => hs i _ δ' (by rw [List.getD_eq_getElem?_getD, List.getElem?_eq_getElem hi]; rfl) q) hn
      · have hq' : SqT K H' p xs := Evl.ex_t (e'.trans S'.bh) hq
        obtain ⟨w, hw, hdw⟩ := dpa_get ha (List.getElem?_eq_getElem hi)
        refine ⟨⟨xs, w, hq', hw⟩, fun y H3 hy => ?_⟩
        obtain ⟨T, x', e1, hT, e2, e3⟩ := hy
        subst e1 e2
        have e4 := (e3 xs hq').symm.trans hw
        cases e4
        have gr := Gr.new (o := .tup [.int (i : Nat), w]) S'.bh hT
        refine ⟨_, gr, .tup (SqT.of upd_same) (.cons (.int _) (.cons ?_ .nil))⟩
        rw [List.getD_eq_getElem?_getD, List.getElem?_eq_getElem hi]
        exact dp_mono (e'.trans gr.b) _ _ hdw
      · exact ⟨xs, Evl.ex_t (e'.trans S'.bh) hq, Nat.le_of_eq len⟩
/-- xs.extend(ys), xs at the name j -/
theorem ev_extend {j : Nat} {ds0 : List PyData} (h0 : δ[j]? = some (.ow (RL K ds0))) (h : EvS K te δ fun s δ1 => ∃ ds es, δ1[j]? = some (.ow (RL K ds)) ∧ (den K δ1 s (.list es) ∨ den K δ1 s (.tuple es)) ∧ ds.length + es.length ≤ 100000 ∧ Φ (.pu .none) (δ1.set j (.ow (RL K (ds ++ es))))) : EvS K (tBM K "list" (Rk.rExtendA K) (tVar j) (tCons te tNil)) δ Φ := fun B H σ F Q S k => by
  obtain ⟨v, M, ev, ⟨p, xs0, rfl, hp0, _⟩, _⟩ := S.opn h0
  refine ⟨_, ev, .inl ⟨rfl, xs0, SqL.of hp0⟩, h B H σ F _ S fun u M2 s B2 H2 δ1 e f S2 wk n ⟨ds, es, hj, hd, hl, q⟩ => ?_⟩
  have S2' : Sd K B2 H2 σ δ1 F := S2.less fun a z => .inl z
  have hdr : Dr K B2 H2 u (.list es) ∨ Dr K B2 H2 u (.tuple es) := hd.imp (den_dr S2 wk) (den_dr S2 wk)
  obtain ⟨b, zs, rfl, hs, hz⟩ := dr_seq S2.bh hdr
  obtain ⟨_, _, xs, hp, ha⟩ := S2'.setL (B2 := B2) (xs := []) (ys := []) (ds' := []) hj ev .nil
  obtain ⟨S3, f3, _⟩ := S2'.setL (B2 := B2) (xs := []) hj ev (dpa_append ha hz)
  refine ⟨p, b, xs, zs, rfl, rfl, hp, hs, Evl.sz_of (by rw [dpa_len ha, dpa_len hz]; exact hl), ?_⟩
  exact k .non (fun _ => False) (.pu .none) B2 _ _ e (fun a z => (f3 a z).trans (f a z)) (S3.less fun a z => z.elim id False.elim) ⟨.non, fun _ z => z⟩ (fun _ z => z.elim) q
/-- xs.remove(k), ints, xs at the name j -/
theorem ev_remove {j : Nat} {ns0 : List Int} (h0 : δ[j]? = some (.ow (RL K (ns0.map PyData.int)))) (h : EvS K te δ fun s δ1 => ∃ (ns : List Int) (k : Int) (i : Nat), δ1[j]? = some (.ow (RL K (ns.map PyData.int))) ∧ s = .pu (.int k) ∧ ns[i]? = some k ∧ (∀ m : Nat, m < i → ns[m]? ≠ some k) ∧ Φ (.pu .none) (δ1.set j (.ow (RL K ((ns.eraseIdx i).map PyData.int))))) : EvS K (tBM K "list" rRemI (tVar j) (tCons te tNil)) δ Φ := fun B H σ F Q S kk => by
  obtain ⟨v, M, ev, ⟨p, xs0, rfl, hp0, _⟩, _⟩ := S.opn h0
  refine ⟨_, ev, .inl ⟨rfl, xs0, SqL.of hp0⟩, h B H σ F _ S fun u M2 s B2 H2 δ1 e f S2 wk n ⟨ns, k, i, hj, es, hi, hno, q⟩ => ?_⟩
  subst es
  have S2' : Sd K B2 H2 σ δ1 F := S2.less fun a z => .inl z
  obtain ⟨_, _, xs, hp, ha⟩ := S2'.setL (B2 := B2) (xs := []) (ys := []) (ds' := []) hj ev .nil
  have ex := dpa_ints_inv ha
  subst ex
  obtain ⟨S3, f3, _⟩ := S2'.setL (B2 := B2) (xs := []) (ys := (ns.eraseIdx i).map V.int) hj ev (dpa_ints _)
  exact ⟨p, ns, k, i, rfl, by rw [dp_int_inv wk.1], hp, hi, hno, kk .non (fun _ => False) (.pu .none) B2 _ _ e (fun a z => (f3 a z).trans (f a z)) (S3.less fun a z => z.elim id False.elim) ⟨.non, fun _ z => z⟩ (fun _ z => z.elim) q⟩
end
/-! ### dice -/
def DiceOk (xs : List Int) : Prop := 2 ≤ xs.length ∧ xs.length ≤ 1000 ∧ ∀ x ∈ xs, 0 ≤ x
/-- the list of draws at d -/
def RDi (d : Addr) : Res where
  P v B H M := v = .ref d ∧ (∃ xs, DiceOk xs ∧ H d = some (.lst (xs.map V.int))) ∧ ∀ a, M a ↔ a = d
  loc := by
    rintro v B H B' H' M ⟨rfl, ⟨xs, ok, hd⟩, hM⟩ e k
    exact ⟨rfl, ⟨xs, ok, by rw [k d ((hM d).mpr rfl)]; exact hd⟩, hM⟩
  live := by
    rintro v B H M ⟨rfl, ⟨xs, ok, hd⟩, hM⟩ a ha
    rw [(hM a).mp ha, hd]
    exact fun z => nomatch z
/-- a def whose first argument is the list of draws -/
def spDi (K : PySem.W.Frag) (n : Nat) (pre : List PyData → Prop) (T : List PyData → Rt → Prop) : Sp := fun vs H Q _ =>
  ∃ B d rest ds xs, vs = .ref d :: rest ∧ Ex B H ∧ B d = none ∧ H d = some (.lst (xs.map V.int)) ∧ DiceOk xs ∧ DpAll K B rest ds ∧ ds.length = n ∧ pre ds ∧
    ∀ v B2 H2 r xs', Ex B B2 → Ex B2 H2 → (∀ a o, a ≠ d → H a = some o → H2 a = some o) → (∀ a o, B2 a = some o → B a = some o ∨ H a = none) → H2 d = some (.lst (xs'.map V.int)) → DiceOk xs' → RtOk K H B2 H2 v r → T ds r → Q v H2
theorem spDi_len {K : PySem.W.Frag} {n : Nat} {pre : List PyData → Prop} {T : List PyData → Rt → Prop} {vs : List V} {H : Hp} {Q : VK} {E : XK} (h : spDi K n pre T vs H Q E) : vs.length = n + 1 := by
  obtain ⟨B, d, rest, ds, xs, rfl, _, _, _, _, ha, hn, _⟩ := h
  rw [List.length_cons, dpa_len ha, hn]
section
variable {K : PySem.W.Frag} {w : World} {δ : List Slot} {te ta tb tc : TE} {tr : TA} {tt : TT} {t u : TS} {Φ : Slot → List Slot → Prop}
theorem set_selfD {i : Nat} {x : Slot} (h : δ[i]? = some x) : δ.set i x = δ := by
  apply List.ext_getElem?
  intro j
  by_cases e : j = i
  · subst e
    rw [h, List.getElem?_set_self (List.getElem?_eq_some_iff.mp h).1]
  · rw [List.getElem?_set_ne (Ne.symm e)]
theorem ev_callD {i n : Nat} {d : Addr} {pre : List PyData → Prop} {T : List PyData → Rt → Prop} {E : XK} (h0 : δ[i]? = some (.ow (RDi d))) (h : EvDs K tr δ fun ds δ1 => δ1[i]? = some (.ow (RDi d)) ∧ ds.length = n ∧ pre ds ∧ ∀ r, T ds r → Φ (r.slot K) δ1) : EvS K (tCall (spDi K n pre T) [] E (tCons (tVar i) tr)) δ Φ := fun B H σ F Q S k => by
  obtain ⟨v, M, ev, ⟨rfl, _, _⟩, _⟩ := S.opn h0
  refine ⟨_, ev, h B H σ F _ S fun vs ds B2 H2 δ1 e f S2 ha ⟨hi, hn, hp, q⟩ => ?_⟩
  show spDi K n pre T (.ref d :: vs ++ []) H2 Q E
  rw [List.append_nil]
  obtain ⟨v', M', ev', ⟨ed, ⟨xs, ok, hd⟩, hM⟩, hb, hF, op⟩ := S2.opn hi
  subst ed
  have hbd : B2 d = none := hb d ((hM d).mpr rfl)
  refine ⟨B2, d, vs, ds, xs, rfl, S2.bh, hbd, hd, ok, ha, hn, hp, fun v B3 H3 r xs' e3 bh3 h3 nw3 hd3 ok3 hr hT => ?_⟩
  have hb3 : B3 d = none := by
    cases z : B3 d with
    | none => rfl
    | some o =>
      rcases nw3 d o z with y | y
      · rw [hbd] at y; cases y
      · rw [hd] at y; cases y
  have S3 := op B3 H3 (some (.ref d)) (.ow (RDi d)) (fun a => a = d) e3 bh3 (fun a o ha' nm => h3 a o (fun z => nm ((hM a).mpr z)) ha') (fun a o z => (nw3 a o z).imp id .inl) ⟨_, rfl, ⟨rfl, ⟨xs', ok3, hd3⟩, fun _ => Iff.rfl⟩, fun a z => by rw [z]; exact hb3⟩ (fun a z => .inl ((hM a).mpr z))
  rw [set_self ev', set_selfD hi] at S3
  have f3 : ∀ a, F a → H3 a = H a := fun a z => by
    obtain ⟨o, ho⟩ := some_of_ne (S2.fl a z)
    rw [h3 a o (fun y => hF a ((hM a).mpr y) z) ho, ← ho, f a z]
  cases r with
  | d z => exact k v (fun _ => False) (.pu z) B3 H3 δ1 (e.trans e3) f3 (S3.less fun a z => z.elim id False.elim) ⟨hr, fun _ z => z⟩ (fun _ z => z.elim) (q _ hT)
  | l zs =>
    obtain ⟨p, ys, rfl, hp0, hbp, hp3, hx⟩ := hr
    have S4 : Sd K B3 H3 σ δ1 (fun a => F a ∨ a = p) := by
      obtain ⟨ms, h1, h2, h3', h4⟩ := S3.sl
      obtain ⟨ms0, k1, k2, k3, k4⟩ := S2.sl
      have live2 : ∀ j a, ms0 j a → H2 a ≠ none := fun j a hj => by
        have hl := k4 j a hj
        have q2 := k1 j δ1[j] (List.getElem?_eq_getElem hl)
        cases e5 : δ1[j] with
        | non => rw [e5] at q2; exact absurd hj (q2 a)
        | pu x => rw [e5] at q2; obtain ⟨_, _, _, z⟩ := q2; exact absurd hj (z a)
        | ow R => rw [e5] at q2; obtain ⟨_, _, hP, _⟩ := q2; exact R.live hP a hj
        | al j => rw [e5] at q2; exact q2.elim
      -- the same footprints as before the call
      refine ⟨bh3, S3.len, fun a ha => ?_, fun a ha => ?_, ms0, fun j s hs => ?_, k2, fun j a q z => ?_, k4⟩
      · rcases ha with z | rfl
        · exact S3.fb a z
        · exact hbp
      · rcases ha with z | rfl
        · exact S3.fl a z
        · rw [hp3]; exact fun z => nomatch z
      · have q2 := k1 j s hs
        cases s with
        | non => exact q2
        | pu x => obtain ⟨u, e5, hdx, hMx⟩ := q2; exact ⟨u, e5, dp_mono e3 _ _ hdx, hMx⟩
        | ow R =>
          obtain ⟨u, e5, hP, hbb⟩ := q2
          by_cases hjd : ms0 j d
          · -- the slot of the draws itself
            obtain ⟨u3, e6, hP3, hb3'⟩ := h1 j _ hs
            have hij : j = i := by
              obtain ⟨u4, e7, hP4, _⟩ := k1 i _ hi
              exact k2 j i d hjd ((hP4.2.2 d).mpr rfl)
            subst hij
            rw [hi] at hs
            cases hs
            have eM : ms0 j = fun a => a = d := funext fun a => propext (hP.2.2 a)
            rw [eM]
            exact ⟨.ref d, ev', ⟨rfl, ⟨xs', ok3, hd3⟩, fun _ => Iff.rfl⟩, fun a z => by rw [z]; exact hb3⟩
          · have same : ∀ a, ms0 j a → H3 a = H2 a := fun a ha => by
              obtain ⟨o, ho⟩ := some_of_ne (live2 j a ha)
              rw [ho]
              exact h3 a o (fun z => hjd (by rw [← z]; exact ha)) ho
            refine ⟨u, e5, R.loc hP e3 same, fun a ha => ?_⟩
            cases z : B3 a with
            | none => rfl
            | some o =>
              rcases nw3 a o z with y | y
              · rw [hbb a ha] at y; cases y
              · exact absurd y (live2 j a ha)
        | al j => exact q2
      · rcases z with z | rfl
        · exact k3 j a q z
        · exact live2 j a q hp0
    exact k (.ref p) (fun a => a = p) (.ow (RL K zs)) B3 H3 δ1 (e.trans e3) f3 S4 ⟨p, ys, rfl, hp3, hx, fun _ => Iff.rfl⟩ (fun a z z2 => S2.fl a z2 (by rw [z]; exact hp0)) (q _ hT)
/-- a def whose first argument is the list of draws, by its body -/
theorem body_Di {n : Nat} {pre : List PyData → Prop} {T : List PyData → Rt → Prop} {N : List Str} {vs : List V} {H : Hp} {Q : VK} {E : XK} (h : spDi K n pre T vs H Q E)
    (hx : ∀ d ds, ds.length = n → pre ds → ExS K t { nx := fun δ2 => T ds (.d .none) ∧ δ2[0]? = some (.ow (RDi d)), rt := fun s δ2 => RtS K (T ds) s δ2 ∧ δ2[0]? = some (.ow (RDi d)) ∧ s ≠ .al 0 } (.ow (RDi d) :: (ds.map Slot.pu ++ List.replicate (N.length - (ds.length + 1)) Slot.non))) : t { nx := fun _ H' => Q .non H', rt := Q } (L2.start N vs) H := by
  obtain ⟨B, d, rest, ds, xs, rfl, eB, hbd, hd, ok, ha, hn, hp, q⟩ := h
  have hl := dpa_len ha
  let F : Addr → Prop := fun a => H a ≠ none ∧ B a = none ∧ a ≠ d
  have est : L2.start N (.ref d :: rest) = some (.ref d) :: (rest.map some ++ List.replicate (N.length - (rest.length + 1)) none) := by
    unfold L2.start
    rw [List.map_cons, List.length_cons, List.cons_append]
  have S0 : Sd K B H (L2.start N (.ref d :: rest)) (.ow (RDi d) :: (ds.map Slot.pu ++ List.replicate (N.length - (ds.length + 1)) Slot.non)) F := by
    rw [est]
    refine ⟨eB, by simp [hl], fun a z => z.2.1, fun a z => z.1, fun i a => i = 0 ∧ a = d, fun i s hs => ?_, fun i j a z1 z2 => by rw [z1.1, z2.1], fun i a z f => f.2.2 z.2, fun i a z => by rw [z.1]; exact Nat.zero_lt_succ _⟩
    cases i with
    | zero =>
      rw [List.getElem?_cons_zero] at hs
      cases hs
      exact ⟨.ref d, rfl, ⟨rfl, ⟨xs, ok, hd⟩, fun a => ⟨fun z => z.2, fun z => ⟨rfl, z⟩⟩⟩, fun a z => by rw [z.2]; exact hbd⟩
    | succ i =>
      rw [List.getElem?_cons_succ] at hs
      by_cases hlt : i < ds.length
      · rw [List.getElem?_append_left (by rw [List.length_map]; exact hlt), List.getElem?_map] at hs
        cases hdi : ds[i]? with
        | none => rw [hdi] at hs; cases hs
        | some x =>
          rw [hdi] at hs
          cases hs
          obtain ⟨v, hv, hxx⟩ := dpa_get ha hdi
          rw [List.getElem?_cons_succ, List.getElem?_append_left (by rw [List.length_map, hl]; exact hlt), List.getElem?_map, hv]
          exact ⟨v, rfl, hxx, fun _ z => nomatch z.1⟩
      · rw [List.getElem?_append_right (by rw [List.length_map]; omega)] at hs
        rw [List.eq_of_mem_replicate (List.mem_of_getElem? hs)]
        exact fun _ z => nomatch z.1
  have fin : ∀ B2 H2 σ2 δ2 F', Ex B B2 → (∀ a, F a → H2 a = H a) → Sd K B2 H2 σ2 δ2 F' → (∀ a, F a → F' a) → δ2[0]? = some (.ow (RDi d)) → Ex B2 H2 ∧ (∀ a o, a ≠ d → H a = some o → H2 a = some o) ∧ (∀ a o, B2 a = some o → B a = some o ∨ H a = none) ∧ ∃ xs', H2 d = some (.lst (xs'.map V.int)) ∧ DiceOk xs' ∧ B2 d = none := fun B2 H2 σ2 δ2 F' e f S hF' h0 => by
    obtain ⟨v, M, ev, ⟨_, ⟨xs', ok', hd'⟩, hM⟩, hb, _⟩ := S.opn h0
    have hbd2 : B2 d = none := hb d ((hM d).mpr rfl)
    refine ⟨S.bh, fun a o hne ho => ?_, fun a o ho => ?_, xs', hd', ok', hbd2⟩
    · cases hba : B a with
      | none => rw [f a ⟨nn_of ho, hba, hne⟩]; exact ho
      | some o' =>
        have e1 := eB a o' hba
        rw [ho] at e1
        cases e1
        exact S.bh a o (e a o hba)
    · cases hba : B a with
      | some o' => exact .inl (by rw [e a o' hba] at ho; exact ho)
      | none =>
        refine .inr ?_
        cases hh : H a with
        | none => rfl
        | some u =>
          by_cases hne : a = d
          · rw [hne, hbd2] at ho; cases ho
          · rw [S.fb a (hF' a ⟨nn_of hh, hba, hne⟩)] at ho; cases ho
  have fresh : ∀ (B2 : Hp) (p : Addr), Ex B B2 → B2 p = none → ¬ F p → p ≠ d → H p = none := fun B2 p e hb nf hne => by
    cases hh : H p with
    | none => rfl
    | some u => exact absurd ⟨nn_of hh, exnone e hb, hne⟩ nf
  refine hx d ds hn hp B H _ F _ S0 ⟨fun B2 H2 σ2 δ2 e f S ⟨p, p0⟩ => ?_, fun _ _ _ _ _ _ _ z => z.elim, fun _ _ _ _ _ _ _ z => z.elim, fun v M s B2 H2 σ2 δ2 e f S w n ⟨p, p0, p1⟩ => ?_⟩
  · obtain ⟨g1, g2, g3, xs', g4, g5, g6⟩ := fin B2 H2 σ2 δ2 F e f S (fun _ z => z) p0
    exact q .non B2 H2 (.d .none) xs' e g1 g2 g3 g4 g5 .non p
  · obtain ⟨g1, g2, g3, xs', g4, g5, g6⟩ := fin B2 H2 σ2 δ2 _ e f S (fun _ z => .inl z) p0
    have S' : Sd K B2 H2 σ2 δ2 F := S.less fun a z => .inl z
    rcases p with ⟨z, rfl, hT⟩ | ⟨zs, hs, hT⟩
    · exact q v B2 H2 (.d z) xs' e g1 g2 g3 g4 g5 w.1 hT
    · rcases hs with rfl | ⟨i, rfl, hi⟩
      · obtain ⟨p, ys, rfl, h3, hxx, hM⟩ := w
        have hb2 : B2 p = none := S.fb p (.inr ((hM p).mpr rfl))
        have hne : p ≠ d := fun z => by
          obtain ⟨ms, k1, k2, k3, k4⟩ := S.sl
          obtain ⟨u, eu, hP, _⟩ := k1 0 _ p0
          exact k3 0 d ((hP.2.2 d).mpr rfl) (.inr ((hM d).mpr z.symm))
        exact q _ B2 H2 (.l zs) xs' e g1 g2 g3 g4 g5 ⟨p, ys, rfl, fresh B2 p e hb2 (n p ((hM p).mpr rfl)) hne, hb2, h3, hxx⟩ hT
      · obtain ⟨v', M', ev, ⟨p, ys, rfl, h3, hxx, hM⟩, hb, hF, _⟩ := S'.opn hi
        rw [w.1] at ev
        cases ev
        have hb2 : B2 p = none := hb p ((hM p).mpr rfl)
        have hne : p ≠ d := fun z => by
          obtain ⟨ms, k1, k2, k3, k4⟩ := S'.sl
          obtain ⟨u, eu, hP, _⟩ := k1 0 _ p0
          obtain ⟨u2, eu2, hP2, _⟩ := k1 i _ hi
          obtain ⟨p2, ys2, e7, h8, _, hM2⟩ := hP2
          rw [w.1] at eu2
          cases eu2
          cases e7
          have e9 := k2 0 i d ((hP.2.2 d).mpr rfl) ((hM2 d).mpr z.symm)
          exact p1 (by rw [← e9])
        exact q _ B2 H2 (.l zs) xs' e g1 g2 g3 g4 g5 ⟨p, ys, rfl, fresh B2 p e hb2 (hF p ((hM p).mpr rfl)) hne, hb2, h3, hxx⟩ hT
theorem cal_Di {P : Program} {mg : Str → Option Value} {base : Heap} {x : Str} {st : Stmt} {f : Addr} {fd : FuncData} {N ps : List Str} {k n : Nat} {pre : List PyData → Prop} {T : List PyData → Rt → Prop}
    (F : Fun K x x st f fd) (hm : mg x = some (.ref f)) (hb : Binds K fd ps []) (S : FnScope N ps (defScope st)) (hn : ps.length = n + 1 := by rfl)
    (hbody : ∀ (cdv : Value) (A : Around) (outer : List Env) (s : Shared) (H : Hp) (E : XK), Room k (A.deeper (envOfC x (defScope st) s.heap.objs.size f cdv)) →
      ∃ t, PSs (cxOf CX0 P w K mg base N x (defScope st) f cdv A outer s H E).nox (defBody st) t ∧ ∀ d ds, ds.length = n → pre ds → ExS K t { nx := fun δ2 => T ds (.d .none) ∧ δ2[0]? = some (.ow (RDi d)), rt := fun s δ2 => RtS K (T ds) s δ2 ∧ δ2[0]? = some (.ow (RDi d)) ∧ s ≠ .al 0 } (.ow (RDi d) :: (ds.map Slot.pu ++ List.replicate (N.length - (ds.length + 1)) Slot.non))) : Cal P w K mg base (k + 1) x (spDi K n pre T) := by
  refine ⟨f, fd, ps, F.ok S (fun vs H Q E h => by rw [spDi_len h, hn]) (fun cdv A outer s H vs Q E hr h => ?_), hm, F.kp, hb⟩
  obtain ⟨t, ht, hx⟩ := hbody cdv A outer s H E hr
  exact ⟨t, ht, body_Di h hx⟩
end
end Dl

namespace Dl
open PySem PySem.Spec PyProof.Rows L2
open Evl (Ex)
/-! ### dicts with int keys at names -/
inductive KvAll (K : PySem.W.Frag) (B : Hp) : List (Key × V) → List (Int × PyData) → Prop
  | nil : KvAll K B [] []
  | cons {i : Int} {v : V} {d : PyData} {xs : List (Key × V)} {kvs : List (Int × PyData)} : Dp K B v d → KvAll K B xs kvs → KvAll K B ((Sum.inl i, v) :: xs) ((i, d) :: kvs)
def lookI (kvs : List (Int × PyData)) (k : Int) : Option PyData := (kvs.find? fun kv => decide (kv.1 = k)).map (·.2)
def putI (kvs : List (Int × PyData)) (k : Int) (d : PyData) : List (Int × PyData) :=
  if (kvs.any fun kv => decide (kv.1 = k)) = true then kvs.map (fun kv => if kv.1 = k then (kv.1, d) else kv) else kvs ++ [(k, d)]
section
variable {K : PySem.W.Frag} {B B' : Hp}
theorem kva_mono (e : Ex B B') : ∀ {xs : List (Key × V)} {kvs : List (Int × PyData)}, KvAll K B xs kvs → KvAll K B' xs kvs
  | _, _, .nil => .nil
  | _, _, .cons h t => .cons (dp_mono e _ _ h) (kva_mono e t)
theorem kva_len : ∀ {xs : List (Key × V)} {kvs : List (Int × PyData)}, KvAll K B xs kvs → xs.length = kvs.length
  | _, _, .nil => rfl
  | _, _, .cons _ t => by simp [kva_len t]
theorem key_inl (i k : Int) : decide ((Sum.inl i : Key) = Sum.inl k) = decide (i = k) := by
  by_cases e : i = k
  · subst e; simp
  · have h : ¬ (Sum.inl i : Key) = Sum.inl k := fun z => e (Sum.inl.inj z)
    simp [e, h]
theorem kva_look {k : Int} : ∀ {xs : List (Key × V)} {kvs : List (Int × PyData)}, KvAll K B xs kvs → (lookI kvs k = none ∧ valV xs (Sum.inl k) = none) ∨ ∃ d v, lookI kvs k = some d ∧ valV xs (Sum.inl k) = some v ∧ Dp K B v d
  | _, _, .nil => .inl ⟨rfl, rfl⟩
  | _, _, @KvAll.cons _ _ i v d xs kvs h t => by
    by_cases e : i = k
    · subst e
      refine .inr ⟨d, v, ?_, valV_pos rfl, h⟩
      simp [lookI, List.find?_cons]
    · have e1 : lookI ((i, d) :: kvs) k = lookI kvs k := by simp [lookI, List.find?_cons, e]
      have e2 : valV ((Sum.inl i, v) :: xs) (Sum.inl k : Key) = valV xs (Sum.inl k) := valV_neg fun z => e (Sum.inl.inj z)
      rw [e1, e2]
      exact kva_look t
theorem kva_any {k : Int} : ∀ {xs : List (Key × V)} {kvs : List (Int × PyData)}, KvAll K B xs kvs → (xs.any fun kv => decide (kv.1 = (Sum.inl k : Key))) = (kvs.any fun kv => decide (kv.1 = k))
  | _, _, .nil => rfl
  | _, _, @KvAll.cons _ _ i v d xs kvs h t => by
    rw [List.any_cons, List.any_cons, kva_any t]
    show (decide ((Sum.inl i : Key) = Sum.inl k) || _) = _
    rw [key_inl]
theorem kva_app : ∀ {xs ys : List (Key × V)} {kvs lvs : List (Int × PyData)}, KvAll K B xs kvs → KvAll K B ys lvs → KvAll K B (xs ++ ys) (kvs ++ lvs)
  | _, _, _, _, .nil, s => s
  | _, _, _, _, .cons r t, s => .cons r (kva_app t s)
theorem kva_map {k : Int} {v : V} {d : PyData} (hd : Dp K B v d) : ∀ {xs : List (Key × V)} {kvs : List (Int × PyData)}, KvAll K B xs kvs → KvAll K B (xs.map fun kv => if kv.1 = (Sum.inl k : Key) then (kv.1, v) else kv) (kvs.map fun kv => if kv.1 = k then (kv.1, d) else kv)
  | _, _, .nil => .nil
  | _, _, @KvAll.cons _ _ i v' d' xs kvs h t => by
    rw [List.map_cons, List.map_cons]
    by_cases e : i = k
    · subst e
      rw [if_pos rfl, if_pos rfl]
      exact .cons hd (kva_map hd t)
    · rw [if_neg e, if_neg (fun z => e (Sum.inl.inj z))]
      exact .cons h (kva_map hd t)
theorem kva_put {k : Int} {v : V} {d : PyData} (hd : Dp K B v d) {xs : List (Key × V)} {kvs : List (Int × PyData)} (h : KvAll K B xs kvs) : KvAll K B (putK xs (Sum.inl k) v) (putI kvs k d) := by
  unfold putK putI
  rw [kva_any h]
  split
  · exact kva_map hd h
  · exact kva_app h (.cons hd .nil)
end
/-- a dict with int keys, owned -/
def RDk (K : PySem.W.Frag) (kvs : List (Int × PyData)) : Res where
  P v B H M := ∃ p xs, v = .ref p ∧ H p = some (.dK xs) ∧ KvAll K B xs kvs ∧ ∀ a, M a ↔ a = p
  loc := by
    rintro v B H B' H' M ⟨p, xs, rfl, hp, hd, hM⟩ e k
    exact ⟨p, xs, rfl, by rw [k p ((hM p).mpr rfl)]; exact hp, kva_mono e hd, hM⟩
  live := by
    rintro v B H M ⟨p, xs, rfl, hp, hd, hM⟩ a ha
    rw [(hM a).mp ha, hp]
    exact fun z => nomatch z
section
variable {K : PySem.W.Frag} {w : World} {δ : List Slot} {te ta tb tc : TE} {tr : TA} {tt : TT} {t u : TS} {d : Dn} {Φ : Slot → List Slot → Prop}
theorem ev_dnew (h : Φ (.ow (RDk K [])) δ) : EvS K tDNewK δ Φ := fun B H σ F Q S k p hp =>
  k (.ref p) (fun a => a = p) (.ow (RDk K [])) B _ δ (Ex.refl _) (fun a z => upd_ne fun e => S.fl a z (by rw [e]; exact hp)) (sd_own S hp) ⟨p, [], rfl, upd_same, .nil, fun _ => Iff.rfl⟩ (fun a z f => S.fl a f (by rw [z]; exact hp)) h
theorem dk_at {B H : Hp} {σ : L2.St} {F : Addr → Prop} {j : Nat} {kvs : List (Int × PyData)} (S : Sd K B H σ δ F) (hj : δ[j]? = some (.ow (RDk K kvs))) : ∃ p xs, σ[j]? = some (some (.ref p)) ∧ H p = some (.dK xs) ∧ KvAll K B xs kvs := by
  obtain ⟨v, M, ev, ⟨p, xs, rfl, hp, ha, _⟩, _⟩ := S.opn hj
  exact ⟨p, xs, ev, hp, ha⟩
theorem ev_dnotin {j : Nat} (h : EvS K te δ fun s δ1 => ∃ (i : Int) (kvs : List (Int × PyData)), s = .pu (.int i) ∧ δ1[j]? = some (.ow (RDk K kvs)) ∧ Φ (.pu (.bool (!(lookI kvs i).isSome))) δ1) : EvS K (tDNotIn te (tVar j)) δ Φ := fun B H σ F Q S k =>
  h B H σ F _ S fun v M s B1 H1 δ1 e1 f1 S1 w1 n1 ⟨i, kvs, es, hj, q⟩ => by
    subst es
    have S1' : Sd K B1 H1 σ δ1 F := S1.less fun a z => .inl z
    obtain ⟨p, xs, ev, hp, ha⟩ := dk_at S1' hj
    refine ⟨_, ev, p, valV xs (Sum.inl i), rfl, by rw [dp_int_inv w1.1]; exact DGet.k (k := Sum.inl i) hp, ?_⟩
    have e : (valV xs (Sum.inl i)).isSome = (lookI kvs i).isSome := by
      rcases kva_look (k := i) ha with ⟨a, b⟩ | ⟨_, _, a, b, _⟩ <;> rw [a, b] <;> rfl
    rw [e]
    exact k _ (fun _ => False) (.pu (.bool _)) B1 H1 δ1 e1 f1 (S1'.less fun a z => z.elim id False.elim) ⟨.bl _, fun _ z => z⟩ (fun _ z => z.elim) q
theorem ev_dget {j : Nat} (h : ∃ kvs0, δ[j]? = some (.ow (RDk K kvs0)) ∧ EvS K te δ fun s δ1 => ∃ (i : Int) (kvs : List (Int × PyData)) (x : PyData), s = .pu (.int i) ∧ δ1[j]? = some (.ow (RDk K kvs)) ∧ lookI kvs i = some x ∧ Φ (.pu x) δ1) : EvS K (tDGet (tVar j) te) δ Φ := fun B H σ F Q S k => by
  obtain ⟨kvs0, h0, h⟩ := h
  obtain ⟨p0, xs0, ev0, _, _⟩ := dk_at S h0
  refine ⟨_, ev0, h B H σ F _ S fun v M s B1 H1 δ1 e1 f1 S1 w1 n1 ⟨i, kvs, x, es, hj, hx, q⟩ => ?_⟩
  subst es
  have S1' : Sd K B1 H1 σ δ1 F := S1.less fun a z => .inl z
  obtain ⟨p, xs, ev, hp, ha⟩ := dk_at S1' hj
  rw [ev0] at ev
  cases ev
  rcases kva_look (k := i) ha with ⟨a, b⟩ | ⟨y, u, a, b, hd⟩
  · rw [hx] at a; cases a
  · rw [hx] at a
    cases a
    refine ⟨p0, u, rfl, by rw [dp_int_inv w1.1, ← b]; exact DGet.k (k := Sum.inl i) hp, ?_⟩
    exact k u (fun _ => False) (.pu x) B1 H1 δ1 e1 f1 (S1'.less fun a z => z.elim id False.elim) ⟨hd, fun _ z => z⟩ (fun _ z => z.elim) q
theorem xs_dput {j : Nat} (h : EvD K te δ fun x δ1 => ∃ kvs0, δ1[j]? = some (.ow (RDk K kvs0)) ∧ EvS K tb δ1 fun s δ2 => ∃ (i : Int) (kvs : List (Int × PyData)), s = .pu (.int i) ∧ δ2[j]? = some (.ow (RDk K kvs)) ∧ kvs.length < 100000 ∧ d.nx (δ2.set j (.ow (RDk K (putI kvs i x))))) : ExS K (sDPut (tVar j) tb te) d δ := fun B H σ F D S L =>
  h B H σ F _ S fun v x B1 H1 δ1 e1 f1 S1 hd ⟨kvs0, h0, p⟩ => by
    obtain ⟨p0, xs0, ev0, _, _⟩ := dk_at S1 h0
    refine ⟨_, ev0, p B1 H1 σ F _ S1 fun u M s B2 H2 δ2 e2 f2 S2 w2 n2 ⟨i, kvs, es, hj, hl, q⟩ => ?_⟩
    subst es
    have S2' : Sd K B2 H2 σ δ2 F := S2.less fun a z => .inl z
    obtain ⟨vv, MM, ev, ⟨pp, xs, rfl, hp, ha, hM⟩, hb, hF, op⟩ := S2'.opn hj
    rw [ev0] at ev
    cases ev
    have hbp : B2 p0 = none := hb p0 ((hM p0).mpr rfl)
    refine ⟨p0, _, rfl, by rw [dp_int_inv w2.1]; exact DPut.k (k := Sum.inl i) hp (Evl.sz_lt (by rw [kva_len ha]; exact hl)), ?_⟩
    have q2 := op B2 (upd H2 p0 (.dK (putK xs (Sum.inl i) v))) (some (.ref p0)) (.ow (RDk K (putI kvs i x))) (fun a => a = p0) (Ex.refl _) (fun a u ha' => by
      rw [upd_ne (fun e => by rw [e, hbp] at ha'; cases ha')]
      exact S2'.bh a u ha') (fun a o ha' nm => by rw [upd_ne (fun e => nm ((hM a).mpr e))]; exact ha') (fun _ _ z => .inl z)
      ⟨_, rfl, ⟨p0, _, rfl, upd_same, kva_put (dp_mono e2 _ _ hd) ha, fun _ => Iff.rfl⟩, fun a z => by rw [z]; exact hbp⟩ (fun a z => .inl ((hM a).mpr z))
    rw [set_self ev0] at q2
    exact L.nx B2 _ σ _ (e1.trans e2) (fun a z => by rw [upd_ne (fun e => hF a ((hM a).mpr e) z), f2 a z, f1 a z]) q2 q
/-! ### freshly rolled draws -/
theorem xs_dice {j : Nat} {xs : List Int} (hj : δ[j]? = some (.ow (RL K (xs.map PyData.int)))) (ok : DiceOk xs) (h : ∀ a, ExS K t d (δ.set j (.ow (RDi a)))) : ExS K t d δ := fun B H σ F D S L => by
  obtain ⟨v, M, ev, ⟨p, ys, rfl, hp, ha, hM⟩, hb, hF, op⟩ := S.opn hj
  rw [dpa_ints_inv ha] at hp
  have q := op B H (some (.ref p)) (.ow (RDi p)) M (Ex.refl _) S.bh (fun _ _ h _ => h) (fun _ _ h => .inl h) ⟨_, rfl, ⟨rfl, ⟨xs, ok, hp⟩, hM⟩, hb⟩ (fun a z => .inl z)
  rw [set_self ev] at q
  exact h p B H σ F D q L
end
end Dl

namespace Dl
open PySem PySem.Spec PyProof.Rows L2
open Evl (Ex)
section
variable {K : PySem.W.Frag} {w : World} {δ : List Slot} {te ta tb tc : TE} {tr : TA} {tt : TT} {t u : TS} {d : Dn} {Φ : Slot → List Slot → Prop}
theorem ev_eqX (h : EvS K ta δ fun s1 δ1 => EvS K tb δ1 fun s2 δ2 => (∃ i j : Int, s1 = .pu (.int i) ∧ s2 = .pu (.int j) ∧ Φ (.pu (.bool (decide (i = j)))) δ2) ∨ (∃ i j : Str, s1 = .pu (.str i) ∧ s2 = .pu (.str j) ∧ Φ (.pu (.bool (decide (i = j)))) δ2) ∨ ∃ x y, s1 = .pu x ∧ s2 = .pu y ∧ scF x y = true ∧ Φ (.pu (.bool (eqF x y))) δ2) : EvS K (tOp rEq ta tb) δ Φ :=
  ev_eq (h.imp fun s1 δ1 h1 => h1.imp fun s2 δ2 h2 => by
    rcases h2 with ⟨i, j, e1, e2, q⟩ | ⟨i, j, e1, e2, q⟩ | ⟨x, y, e1, e2, c, q⟩
    · exact ⟨_, _, e1, e2, rfl, by rw [eqF_int]; exact q⟩
    · exact ⟨_, _, e1, e2, rfl, by rw [eqF_str]; exact q⟩
    · exact ⟨x, y, e1, e2, c, q⟩)
theorem ev_neX (h : EvS K ta δ fun s1 δ1 => EvS K tb δ1 fun s2 δ2 => (∃ i j : Int, s1 = .pu (.int i) ∧ s2 = .pu (.int j) ∧ Φ (.pu (.bool (!decide (i = j)))) δ2) ∨ (∃ i j : Str, s1 = .pu (.str i) ∧ s2 = .pu (.str j) ∧ Φ (.pu (.bool (!decide (i = j)))) δ2) ∨ ∃ x y, s1 = .pu x ∧ s2 = .pu y ∧ scF x y = true ∧ Φ (.pu (.bool (!eqF x y))) δ2) : EvS K (tOp rNe ta tb) δ Φ :=
  ev_ne (h.imp fun s1 δ1 h1 => h1.imp fun s2 δ2 h2 => by
    rcases h2 with ⟨i, j, e1, e2, q⟩ | ⟨i, j, e1, e2, q⟩ | ⟨x, y, e1, e2, c, q⟩
    · exact ⟨_, _, e1, e2, rfl, by rw [eqF_int]; exact q⟩
    · exact ⟨_, _, e1, e2, rfl, by rw [eqF_str]; exact q⟩
    · exact ⟨x, y, e1, e2, c, q⟩)
theorem ev_inX {neg : Bool} (h : EvS K ta δ fun s1 δ1 => EvS K tb δ1 fun s2 δ2 => (∃ (i : Int) (ns : List Int), s1 = .pu (.int i) ∧ (den K δ2 s2 (.list (ns.map PyData.int)) ∨ den K δ2 s2 (.tuple (ns.map PyData.int))) ∧ Φ (.pu (.bool (if neg then !decide (i ∈ ns) else decide (i ∈ ns)))) δ2) ∨
    (∃ (i : Str) (ns : List Str), s1 = .pu (.str i) ∧ (den K δ2 s2 (.list (ns.map PyData.str)) ∨ den K δ2 s2 (.tuple (ns.map PyData.str))) ∧ Φ (.pu (.bool (if neg then !decide (i ∈ ns) else decide (i ∈ ns)))) δ2) ∨
    ∃ x ds, s1 = .pu x ∧ (den K δ2 s2 (.list ds) ∨ den K δ2 s2 (.tuple ds)) ∧ flatD x = true ∧ ds.all flatD = true ∧ Φ (.pu (.bool (if neg then !memD x ds else memD x ds))) δ2) : EvS K (tOp (rIn K neg) ta tb) δ Φ :=
  ev_in (h.imp fun s1 δ1 h1 => h1.imp fun s2 δ2 h2 => by
    rcases h2 with ⟨i, ns, e1, e2, q⟩ | ⟨i, ns, e1, e2, q⟩ | ⟨x, y, e1, e2, c, c2, q⟩
    · exact ⟨_, _, e1, e2, rfl, all_ints ns, by rw [memD_int]; exact q⟩
    · exact ⟨_, _, e1, e2, rfl, all_strs ns, by rw [memD_str]; exact q⟩
    · exact ⟨x, y, e1, e2, c, c2, q⟩)
/-- xs != [], xs == [] -/
theorem eqv_nil (ds : List PyData) : PyData.eqv (.list ds) (.list []) = ds.isEmpty := by
  cases ds <;> simp [PyData.eqv, PyData.eqvAll]
theorem eqvT_nil (ds : List PyData) : PyData.eqv (.tuple ds) (.tuple []) = ds.isEmpty := by
  cases ds <;> simp [PyData.eqv, PyData.eqvAll]
theorem shaped_nil : SeqAt.shaped (.list []) = true := by decide +kernel
theorem shapedT_nil : SeqAt.shaped (.tuple []) = true := by decide +kernel
theorem ev_nilD (h : Φ (.ow (RL K [])) δ) : EvS K (tLst tNil) δ Φ := ev_lst (eds_nil ⟨Nat.zero_le _, h⟩)
theorem ev_neNil (h : EvS K ta δ fun s δ1 => ∃ ds, den K δ1 s (.list ds) ∧ SeqAt.shaped (.list ds) = true ∧ Φ (.pu (.bool (!ds.isEmpty))) δ1) : EvS K (tOp (rNeD K) ta (tLst tNil)) δ Φ :=
  ev_neD (h.imp fun s δ1 ⟨ds, h1, h2, q⟩ => ev_nilD ⟨_, _, h1, den_ow, h2, shaped_nil, by rw [eqv_nil]; exact q⟩)
theorem ev_eqNil (h : EvS K ta δ fun s δ1 => ∃ ds, den K δ1 s (.list ds) ∧ SeqAt.shaped (.list ds) = true ∧ Φ (.pu (.bool ds.isEmpty)) δ1) : EvS K (tOp (rEqD K) ta (tLst tNil)) δ Φ :=
  ev_eqD (h.imp fun s δ1 ⟨ds, h1, h2, q⟩ => ev_nilD ⟨_, _, h1, den_ow, h2, shaped_nil, by rw [eqv_nil]; exact q⟩)
end
/-! ### shapes -/
/-! ### a def as the head gives it -/
structure Df (K : PySem.W.Frag) (mg : Str → Option Value) (x : Str) (st : Stmt) (ps : List Str) : Prop where
  ex : ∃ f fd, Fun K x x st f fd ∧ mg x = some (.ref f) ∧ Binds K fd ps []
section
variable {P : Program} {w : World} {K : PySem.W.Frag} {mg : Str → Option Value} {base : Heap} {x : Str} {st : Stmt} {N ps : List Str} {k n : Nat} {pre : List PyData → Prop} {T : List PyData → Rt → Prop}
theorem calP (D : Df K mg x st ps) (S : FnScope N ps (defScope st)) (hn : ps.length = n)
    (hbody : ∀ (f : Addr) (cdv : Value) (A : Around) (outer : List Env) (s : Shared) (H : Hp) (E : XK), Room k (A.deeper (envOfC x (defScope st) s.heap.objs.size f cdv)) →
      ∃ t, PSs (cxOf CX0 P w K mg base N x (defScope st) f cdv A outer s H E).nox (defBody st) t ∧ ∀ ds, ds.length = n → pre ds → ExS K t { nx := fun _ => T ds (.d .none), rt := RtS K (T ds) } (ds.map Slot.pu ++ List.replicate (N.length - ds.length) Slot.non)) : Cal P w K mg base (k + 1) x (spP K n pre T) := by
  obtain ⟨f, fd, F, hm, hb⟩ := D.ex
  exact cal_P F hm hb S hn (hbody f)
theorem calDi (D : Df K mg x st ps) (S : FnScope N ps (defScope st)) (hn : ps.length = n + 1)
    (hbody : ∀ (f : Addr) (cdv : Value) (A : Around) (outer : List Env) (s : Shared) (H : Hp) (E : XK), Room k (A.deeper (envOfC x (defScope st) s.heap.objs.size f cdv)) →
      ∃ t, PSs (cxOf CX0 P w K mg base N x (defScope st) f cdv A outer s H E).nox (defBody st) t ∧ ∀ d ds, ds.length = n → pre ds → ExS K t { nx := fun δ2 => T ds (.d .none) ∧ δ2[0]? = some (.ow (RDi d)), rt := fun s δ2 => RtS K (T ds) s δ2 ∧ δ2[0]? = some (.ow (RDi d)) ∧ s ≠ .al 0 } (.ow (RDi d) :: (ds.map Slot.pu ++ List.replicate (N.length - (ds.length + 1)) Slot.non))) : Cal P w K mg base (k + 1) x (spDi K n pre T) := by
  obtain ⟨f, fd, F, hm, hb⟩ := D.ex
  exact cal_Di F hm hb S hn (hbody f)
end
/-! ### built-in names are the built-ins -/
structure Bn (mg : Str → Option Value) : Prop where
  len : mg "len" = none
  range : mg "range" = none
  sorted : mg "sorted" = none
  set_ : mg "set" = none
  isinstance : mg "isinstance" = none
  enumerate : mg "enumerate" = none
  list : mg "list" = none
  tuple : mg "tuple" = none
  abs : mg "abs" = none
  min : mg "min" = none
  max : mg "max" = none
  int : mg "int" = none
  str : mg "str" = none
  bool : mg "bool" = none
  dict : mg "dict" = none
  all : mg "all" = none
  sum : mg "sum" = none
end Dl

namespace Dl
open PySem PySem.Spec PyProof.Rows L2
open Evl (Ex)
/-- a slot that may be wiped -/
def Junk (s : Slot) : Prop := s = .non ∨ ∃ d, s = .pu d
theorem junk_non : Junk .non := .inl rfl
theorem junk_pu {d : PyData} : Junk (.pu d) := .inr ⟨d, rfl⟩
theorem wip1 {δ : List Slot} {j : Nat} {x : Slot} (h : δ[j]? = some x) (hx : Junk x) : Wip δ [j] := fun i hi s hs => by
  rw [List.mem_singleton.mp hi, h] at hs
  cases hs
  exact hx
theorem wip2 {δ : List Slot} {j l : Nat} {x y : Slot} (h : δ[j]? = some x) (hx : Junk x) (h2 : δ[l]? = some y) (hy : Junk y) : Wip δ [j, l] := fun i hi s hs => by
  rcases List.mem_cons.mp hi with e | hi
  · rw [e, h] at hs
    cases hs
    exact hx
  · rw [List.mem_singleton.mp hi, h2] at hs
    cases hs
    exact hy
theorem wip3 {δ : List Slot} {j l m : Nat} {x y z : Slot} (h : δ[j]? = some x) (hx : Junk x) (h2 : δ[l]? = some y) (hy : Junk y) (h3 : δ[m]? = some z) (hz : Junk z) : Wip δ [j, l, m] := fun i hi s hs => by
  rcases List.mem_cons.mp hi with e | hi
  · rw [e, h] at hs
    cases hs
    exact hx
  · exact wip2 h2 hy h3 hz i hi s hs
section
variable {K : PySem.W.Frag} {w : World} {δ : List Slot} {te ta tb tc : TE} {tr : TA} {tt : TT} {t u : TS} {d : Dn} {Φ : Slot → List Slot → Prop}
theorem turnC1 {j : Nat} {x : PyData} {acc : List PyData} {Pn : List PyData → Prop} (hj : j < δ.length) (h : EvT K tt (δ.set j (.pu x)) fun b δ1 => δ1 = δ.set j (.pu x) ∧ if b = true then EvD K te δ1 fun y δ2 => δ2 = δ.set j (.pu x) ∧ acc.length < 100000 ∧ Pn (acc ++ [y]) else Pn acc) : TurnC K (gName j) tt te [j] δ x acc Pn := by
  have out : ∀ i, i ∉ [j] → (δ.set j (.pu x))[i]? = δ[i]? := fun i hi => List.getElem?_set_ne fun e => hi (by rw [e]; exact List.mem_singleton.mpr rfl)
  refine ⟨[(j, x)], tg_name, fun p hp => by rw [List.mem_singleton.mp hp]; exact ⟨hj, List.mem_singleton.mpr rfl⟩, ?_⟩
  have e : setD (wipeD δ [j]) [(j, x)] = δ.set j (.pu x) := by
    show ((δ.set j .non).set j (.pu x)) = _
    rw [List.set_set]
  rw [e]
  refine h.imp fun b δ1 ⟨e1, q⟩ => ?_
  subst e1
  refine ⟨out, ?_⟩
  cases b with
  | true =>
    rw [if_pos rfl] at q ⊢
    exact fun B H σ F Q S k => q B H σ F Q S fun v y B2 H2 δ2 a b c hd ⟨e2, r⟩ => k v y B2 H2 δ2 a b c hd ⟨by rw [e2]; exact out, r⟩
  | false =>
    rw [if_neg Bool.false_ne_true] at q ⊢
    exact q
/-- a turn that keeps or drops, by what stands there -/
def Turn1C (K : PySem.W.Frag) (tt : TT) (te : TE) (j : Nat) (δ : List Slot) (x : PyData) (p : Bool) (v : PyData) : Prop :=
  EvT K tt (δ.set j (.pu x)) fun b δ2 => δ2 = δ.set j (.pu x) ∧ b = p ∧ (p = true → EvD K te (δ.set j (.pu x)) fun y δ3 => δ3 = δ.set j (.pu x) ∧ y = v)
theorem filt_step {α : Type} {xs : List α} {p : α → Bool} {v : α → PyData} {i : Nat} {a : α} (ha : xs[i]? = some a) : ((xs.take (i + 1)).filter p).map v = if p a = true then ((xs.take i).filter p).map v ++ [v a] else ((xs.take i).filter p).map v := by
  rw [List.take_add_one, ha]
  show (((xs.take i) ++ [a]).filter p).map v = _
  rw [List.filter_append, List.map_append, List.filter_cons]
  by_cases h : p a = true
  · rw [if_pos h, if_pos h]; rfl
  · rw [if_neg h, if_neg h]; exact List.append_nil _
theorem turn_filt {α : Type} {j : Nat} {xs : List α} {g : α → PyData} {p : α → Bool} {v : α → PyData} {i : Nat} {a : α} (hj : j < δ.length) (hl : xs.length ≤ 100000) (ha : xs[i]? = some a) (h : Turn1C K tt te j δ (g a) (p a) (v a)) :
    TurnC K (gName j) tt te [j] δ (g a) (((xs.take i).filter p).map v) (fun acc => acc = ((xs.take (i + 1)).filter p).map v) := by
  refine turnC1 hj (h.imp fun b δ1 ⟨e1, eb, q⟩ => ⟨e1, ?_⟩)
  rw [filt_step ha, eb]
  have hi : i < xs.length := (List.getElem?_eq_some_iff.mp ha).1
  cases hp : p a with
  | true =>
    rw [if_pos rfl, if_pos rfl, e1]
    exact fun B H σ F Q S k => q hp B H σ F Q S fun v' y B2 H2 δ2 a1 b1 c1 hd ⟨e2, ey⟩ => k v' y B2 H2 δ2 a1 b1 c1 hd ⟨e2, by
      rw [List.length_map]
      have := List.length_filter_le p (xs.take i)
      have := List.length_take_le i xs
      omega, by rw [ey]⟩
  | false =>
    rw [if_neg Bool.false_ne_true, if_neg Bool.false_ne_true]
theorem ev_fL {α : Type} {j : Nat} {g : α → PyData} (p : α → Bool) (v : α → PyData) (h : EvS K ta δ fun s δ1 => ∃ xs : List α, den K δ1 s (.list (xs.map g)) ∧ Wip δ1 [j] ∧ j < δ1.length ∧ xs.length ≤ 100000 ∧ (∀ a ∈ xs, Turn1C K tt te j δ1 (g a) (p a) (v a)) ∧ Φ (.ow (RL K ((xs.filter p).map v))) δ1) : EvS K (tLc (iList K ta) (gName j) tt te [j]) δ Φ :=
  ev_lcL (h.imp fun s δ1 ⟨xs, hd, hw, hj, hl, ht, q⟩ => ⟨xs.map g, hd, hw, fun i acc => acc = ((xs.take i).filter p).map v, rfl, fun i y acc hy hacc => by
    subst hacc
    rw [List.getElem?_map] at hy
    cases ha : xs[i]? with
    | none => rw [ha] at hy; cases hy
    | some a =>
      rw [ha] at hy
      cases hy
      exact turn_filt hj hl ha (ht a (List.mem_of_getElem? ha)), fun acc hacc => by
    rw [List.length_map, List.take_length] at hacc
    rw [hacc]
    exact q⟩)
theorem ev_fT {α : Type} {j : Nat} {g : α → PyData} (p : α → Bool) (v : α → PyData) (h : EvS K ta δ fun s δ1 => ∃ xs : List α, s = .pu (.tuple (xs.map g)) ∧ Wip δ1 [j] ∧ j < δ1.length ∧ xs.length ≤ 100000 ∧ (∀ a ∈ xs, Turn1C K tt te j δ1 (g a) (p a) (v a)) ∧ Φ (.ow (RL K ((xs.filter p).map v))) δ1) : EvS K (tLc (iTup K ta) (gName j) tt te [j]) δ Φ :=
  ev_lcT (h.imp fun s δ1 ⟨xs, hd, hw, hj, hl, ht, q⟩ => ⟨xs.map g, hd, hw, fun i acc => acc = ((xs.take i).filter p).map v, rfl, fun i y acc hy hacc => by
    subst hacc
    rw [List.getElem?_map] at hy
    cases ha : xs[i]? with
    | none => rw [ha] at hy; cases hy
    | some a =>
      rw [ha] at hy
      cases hy
      exact turn_filt hj hl ha (ht a (List.mem_of_getElem? ha)), fun acc hacc => by
    rw [List.length_map, List.take_length] at hacc
    rw [hacc]
    exact q⟩)
theorem ev_fR {j : Nat} (p : Nat → Bool) (v : Nat → PyData) (h : EvS K ta δ fun s δ1 => ∃ k : Nat, s = .pu (.int (k : Int)) ∧ Wip δ1 [j] ∧ j < δ1.length ∧ k ≤ 100000 ∧ (∀ a : Nat, a < k → Turn1C K tt te j δ1 (.int (a : Int)) (p a) (v a)) ∧ Φ (.ow (RL K (((List.range k).filter p).map v))) δ1) : EvS K (tLc (iRng1 (tCons ta tNil)) (gName j) tt te [j]) δ Φ :=
  ev_lcR1 (h.imp fun s δ1 ⟨k, hs, hw, hj, hl, ht, q⟩ => ⟨(k : Int), hs, by omega, by omega, hw, fun i acc => acc = (((List.range k).take i).filter p).map v, rfl, fun i acc hi hacc => by
    subst hacc
    have hi' : i < k := by omega
    have ha : (List.range k)[i]? = some i := by rw [List.getElem?_range hi']
    exact turn_filt (g := fun a : Nat => PyData.int (a : Int)) hj (by rw [List.length_range]; exact hl) ha (ht i hi'), fun acc hacc => by
    have e : ((k : Int)).toNat = (List.range k).length := by rw [List.length_range]; omega
    rw [e, List.take_length] at hacc
    rw [hacc]
    exact q⟩)
theorem ev_catS (h : EvS K ta δ fun s1 δ1 => EvS K tb δ1 fun s2 δ2 => ∃ ds es, den K δ2 s1 (.list ds) ∧ den K δ2 s2 (.list es) ∧ ds.length + es.length ≤ 100000 ∧ Φ (.ow (RL K (ds ++ es))) δ2) : EvS K (tOp (Rk.rCatS K) ta tb) δ Φ :=
  ev_opL (h.imp fun s1 δ1 h1 => h1.imp fun s2 δ2 ⟨ds, es, d1, d2, hl, q⟩ => ⟨_, _, _, d1, d2, fun B H u v Q e a b k => by
    obtain ⟨p, xs, rfl, hs, ha⟩ := a.lst e
    obtain ⟨p2, ys, rfl, hs2, ha2⟩ := b.lst e
    exact ⟨p, p2, xs, ys, rfl, rfl, hs, hs2, Evl.sz_of (by rw [dpa_len ha, dpa_len ha2]; exact hl), fun r hr => k r _ hr (dpa_append ha ha2)⟩, q⟩)
theorem ifT {c : Bool} {A B : Prop} (h : c = true) (a : A) : if c = true then A else B := by rw [if_pos h]; exact a
theorem ifF {c : Bool} {A B : Prop} (h : c = false) (b : B) : if c = true then A else B := by rw [if_neg (by rw [h]; exact Bool.false_ne_true)]; exact b
theorem ifB {c : Bool} {A B : Prop} (a : c = true → A) (b : c = false → B) : if c = true then A else B := by
  cases c with
  | true => exact ifT rfl (a rfl)
  | false => exact ifF rfl (b rfl)
end
/-! ### shapes -/
def okD (n : Nat) (d : PyData) : Prop := d.canLay0 = true ∧ d.depth ≤ n
theorem okD.up {n m : Nat} {d : PyData} (h : okD n d) (l : n ≤ m) : okD m d := ⟨h.1, Nat.le_trans h.2 l⟩
theorem okD_int {i : Int} : okD 0 (.int i) := ⟨rfl, Nat.le_refl _⟩
theorem okD_bool {i : Bool} : okD 0 (.bool i) := ⟨rfl, Nat.le_refl _⟩
theorem okD_none : okD 0 .none := ⟨rfl, Nat.le_refl _⟩
theorem okD_all {n : Nat} : ∀ {ds : List PyData}, (∀ x ∈ ds, okD n x) → PyData.canLayAll0 ds = true ∧ PyData.depthAll ds ≤ n
  | [], _ => ⟨rfl, Nat.zero_le _⟩
  | x :: xs, h => by
    obtain ⟨a, b⟩ := okD_all (ds := xs) fun y hy => h y (List.mem_cons_of_mem _ hy)
    obtain ⟨c, e⟩ := h x (List.mem_cons_self ..)
    refine ⟨?_, ?_⟩
    · show (x.canLay0 && PyData.canLayAll0 xs) = true
      rw [c, a]; rfl
    · show max x.depth (PyData.depthAll xs) ≤ n
      exact Nat.max_le.mpr ⟨e, b⟩
theorem okD_list {n : Nat} {ds : List PyData} (h : ∀ x ∈ ds, okD n x) : okD (n + 1) (.list ds) := ⟨(okD_all h).1, Nat.succ_le_succ (okD_all h).2⟩
theorem okD_tuple {n : Nat} {ds : List PyData} (h : ∀ x ∈ ds, okD n x) : okD (n + 1) (.tuple ds) := ⟨(okD_all h).1, Nat.succ_le_succ (okD_all h).2⟩
theorem okD.shaped {n : Nat} {d : PyData} (h : okD n d) (l : n ≤ 64) : SeqAt.shaped d = true := by
  unfold SeqAt.shaped
  rw [h.1, Bool.true_and]
  exact decide_eq_true (Nat.le_trans h.2 l)
theorem okD_ints (ns : List Int) : okD 1 (.list (ns.map PyData.int)) := okD_list fun x hx => by
  obtain ⟨n, _, e⟩ := List.mem_map.mp hx
  rw [← e]
  exact okD_int
theorem shaped_ints (ns : List Int) : SeqAt.shaped (.list (ns.map PyData.int)) = true := (okD_ints ns).shaped (by decide)
theorem eqv_ints : ∀ ns ms : List Int, PyData.eqvAll (ns.map PyData.int) (ms.map PyData.int) = decide (ns = ms)
  | [], [] => by simp [PyData.eqvAll]
  | [], _ :: _ => by simp [PyData.eqvAll]
  | _ :: _, [] => by simp [PyData.eqvAll]
  | n :: ns, m :: ms => by
    have e : PyData.eqvAll ((n :: ns).map PyData.int) ((m :: ms).map PyData.int) = (n == m && PyData.eqvAll (ns.map PyData.int) (ms.map PyData.int)) := by
      simp [PyData.eqvAll, PyData.eqv]
    rw [e, eqv_ints ns ms]
    by_cases h : n = m
    · subst h; by_cases h2 : ns = ms <;> simp [h2]
    · simp [h]
theorem eqvL_ints (ns ms : List Int) : PyData.eqv (.list (ns.map PyData.int)) (.list (ms.map PyData.int)) = decide (ns = ms) := by
  rw [← eqv_ints]
  simp [PyData.eqv]
/-- two rising lists of one content are one -/
theorem rising_unique : ∀ {xs ys : List Int}, xs.Pairwise (· < ·) → ys.Pairwise (· < ·) → (∀ k, k ∈ xs ↔ k ∈ ys) → xs = ys
  | [], [], _, _, _ => rfl
  | [], y :: ys, _, _, h => absurd ((h y).mpr (List.mem_cons_self ..)) (by simp)
  | x :: xs, [], _, _, h => absurd ((h x).mp (List.mem_cons_self ..)) (by simp)
  | x :: xs, y :: ys, hx, hy, h => by
    obtain ⟨h1, h2⟩ := List.pairwise_cons.mp hx
    obtain ⟨g1, g2⟩ := List.pairwise_cons.mp hy
    have e : x = y := by
      rcases List.mem_cons.mp ((h x).mp (List.mem_cons_self ..)) with z | z
      · exact z
      · rcases List.mem_cons.mp ((h y).mpr (List.mem_cons_self ..)) with z2 | z2
        · exact z2.symm
        · have a := g1 x z
          have b := h1 y z2
          omega
    subst e
    rw [rising_unique h2 g2 fun k => ⟨fun hk => ?_, fun hk => ?_⟩]
    · rcases List.mem_cons.mp ((h k).mp (List.mem_cons_of_mem _ hk)) with z | z
      · have := h1 k hk; omega
      · exact z
    · rcases List.mem_cons.mp ((h k).mpr (List.mem_cons_of_mem _ hk)) with z | z
      · have := g1 k hk; omega
      · exact z
end Dl

namespace Dl
open PySem PySem.Spec PyProof.Rows L2
open Evl (Ex)
/-- the draws at d, told outright -/
def RDl (d : Addr) (xs : List Int) : Res where
  P v B H M := v = .ref d ∧ H d = some (.lst (xs.map V.int)) ∧ ∀ a, M a ↔ a = d
  loc := by
    rintro v B H B' H' M ⟨rfl, hd, hM⟩ e k
    exact ⟨rfl, by rw [k d ((hM d).mpr rfl)]; exact hd, hM⟩
  live := by
    rintro v B H M ⟨rfl, hd, hM⟩ a ha
    rw [(hM a).mp ha, hd]
    exact fun z => nomatch z
section
variable {K : PySem.W.Frag} {w : World} {δ : List Slot} {te ta tb tc : TE} {tr : TA} {tt : TT} {t u : TS} {d : Dn} {Φ : Slot → List Slot → Prop} {B H : Hp} {σ : L2.St} {F : Addr → Prop}
theorem Sd.as {j : Nat} {R R' : Res} (S : Sd K B H σ δ F) (hj : δ[j]? = some (.ow R)) (h : ∀ v B H M, R.P v B H M → R'.P v B H M) : Sd K B H σ (δ.set j (.ow R')) F := by
  obtain ⟨v, M, ev, hP, hb, hF, op⟩ := S.opn hj
  have q := op B H (some v) (.ow R') M (Ex.refl _) S.bh (fun _ _ h _ => h) (fun _ _ h => .inl h) ⟨_, rfl, h v B H M hP, hb⟩ (fun a z => .inl z)
  rwa [set_self ev] at q
theorem ev_intB2 (h : EvS K ta δ fun s δ1 => ∃ b : Bool, s = .pu (.bool b) ∧ Φ (.pu (.int (if b then 1 else 0))) δ1) : EvS K (tCB (fun xs H Q => (∃ i, xs = [V.int i] ∧ Q (V.int i) H) ∨ ∃ k, xs = [V.bl k] ∧ Q (V.int (if k = true then 1 else 0)) H) (tCons ta tNil)) δ Φ := ev_intB h
def pOff (ds : List PyData) : Prop := ∃ k : Int, ds = [.int k] ∧ 0 < k ∧ k < 1073741824
def tOff (ds : List PyData) (r : Rt) : Prop := ∀ k : Int, ds = [.int k] → ∃ x : Nat, r = .d (.int (x : Int)) ∧ (x : Int) < k
/-- a draw -/
theorem ev_off {i : Nat} {a : Addr} (h0 : δ[i]? = some (.ow (RDi a))) (h : EvS K te δ fun s δ1 => δ1[i]? = some (.ow (RDi a)) ∧ ∃ k : Int, s = .pu (.int k) ∧ 0 < k ∧ k < 1073741824 ∧ ∀ x : Nat, (x : Int) < k → Φ (.pu (.int (x : Int))) δ1) : EvS K (tCall (spDi K 1 pOff tOff) [] E0 (tCons (tVar i) (tCons te tNil))) δ Φ :=
  ev_callD h0 (eds_cons (h.imp fun s δ1 ⟨hi, k, es, h1, h2, q⟩ => by
    subst es
    exact ⟨_, frz_pu, eds_nil ⟨hi, rfl, ⟨k, rfl, h1, h2⟩, fun r hr => by
      obtain ⟨x, rfl, hx⟩ := hr k rfl
      exact q x hx⟩⟩))
theorem ev_ixB (h : EvS K ta δ fun s1 δ1 => EvS K tb δ1 fun s2 δ2 => ∃ ds i d, (den K δ2 s1 (.list ds) ∨ s1 = .pu (.tuple ds)) ∧ s2 = .pu (.int i) ∧ atI ds i = some d ∧ Φ (.pu d) δ2) : EvS K (tOp (fun x y H Q => rIxL K x y H Q ∨ rIxT K x y H Q) ta tb) δ Φ :=
  ev_opP (h.imp fun s1 δ1 h1 => h1.imp fun s2 δ2 ⟨ds, i, d, e1, e2, hi, q⟩ => by
    rcases e1 with e1 | e1
    · exact ⟨.list ds, .int i, d, e1, .inl e2, fun B H u v Q e d1 d2 k => by
        obtain ⟨p, xs, rfl, hs, ha⟩ := d1.lst e
        obtain ⟨w, hw, hd⟩ := atI_dpa ha hi
        exact .inl ⟨p, xs, i, w, rfl, dr_int d2, hs, hw, k w B H (Gr.refl e) hd⟩, q⟩
    · exact ⟨.tuple ds, .int i, d, .inl e1, .inl e2, fun B H u v Q e d1 d2 k => by
        obtain ⟨p, xs, rfl, hs, ha⟩ := d1.tup e
        obtain ⟨w, hw, hd⟩ := atI_dpa ha hi
        exact .inr ⟨p, xs, i, w, rfl, dr_int d2, hs, hw, k w B H (Gr.refl e) hd⟩, q⟩)
theorem ixN_nat {n k : Nat} (h : k < n) : ixN n (k : Int) = some k := by
  unfold ixN
  rw [if_pos (by omega), if_pos (by omega)]
  simp
theorem xs_mid (I : List Slot → Prop) (h : ExS K t { d with nx := I } δ) (h2 : ∀ δ', I δ' → d.nx δ') : ExS K t d δ := fun B H σ F D S L =>
  h B H σ F D S ⟨fun B2 H2 σ2 δ2 e f S2 p => L.nx B2 H2 σ2 δ2 e f S2 (h2 δ2 p), L.bk, L.ct, L.rt⟩
theorem xs_as {j : Nat} {R R' : Res} (hj : δ[j]? = some (.ow R)) (h : ∀ v B H M, R.P v B H M → R'.P v B H M) (hx : ExS K t d (δ.set j (.ow R'))) : ExS K t d δ := fun B H σ F D S L => hx B H σ F D (S.as hj h) L
theorem xs_dopen {j : Nat} {a : Addr} (hj : δ[j]? = some (.ow (RDi a))) (h : ∀ xs, DiceOk xs → ExS K t d (δ.set j (.ow (RDl a xs)))) : ExS K t d δ := fun B H σ F D S L => by
  obtain ⟨v, M, ev, ⟨rfl, ⟨xs, ok, hp⟩, hM⟩, hb, hF, op⟩ := S.opn hj
  have q := op B H (some (.ref a)) (.ow (RDl a xs)) M (Ex.refl _) S.bh (fun _ _ h _ => h) (fun _ _ h => .inl h) ⟨_, rfl, ⟨rfl, hp, hM⟩, hb⟩ (fun a z => .inl z)
  rw [set_self ev] at q
  exact h xs ok B H σ F D q L
theorem xs_dclose {j : Nat} {a : Addr} {xs : List Int} (hj : δ[j]? = some (.ow (RDl a xs))) (ok : DiceOk xs) (h : ExS K t d (δ.set j (.ow (RDi a)))) : ExS K t d δ :=
  xs_as (R := RDl a xs) (R' := RDi a) hj (fun v B H M ⟨e, hp, hM⟩ => ⟨e, ⟨xs, ok, hp⟩, hM⟩) h
theorem ev_dclose {j : Nat} {a : Addr} {xs : List Int} (hj : δ[j]? = some (.ow (RDl a xs))) (ok : DiceOk xs) (h : EvS K te (δ.set j (.ow (RDi a))) Φ) : EvS K te δ Φ := fun B H σ F Q S =>
  h B H σ F Q (S.as (R := RDl a xs) (R' := RDi a) hj (fun v B H M ⟨e, hp, hM⟩ => ⟨e, ⟨xs, ok, hp⟩, hM⟩))
theorem dl_at {j : Nat} {a : Addr} {xs : List Int} (S : Sd K B H σ δ F) (hj : δ[j]? = some (.ow (RDl a xs))) : σ[j]? = some (some (.ref a)) ∧ H a = some (.lst (xs.map V.int)) := by
  obtain ⟨v, M, ev, ⟨rfl, hp, hM⟩, _⟩ := S.opn hj
  exact ⟨ev, hp⟩
theorem atI_map {xs : List Int} {i x : Int} (h : atI xs i = some x) : atI (xs.map V.int) i = some (.int x) := by
  unfold atI at h ⊢
  rw [List.length_map]
  cases q : ixN xs.length i with
  | none => rw [q] at h; cases h
  | some k =>
    rw [q] at h
    show (xs.map V.int)[k]? = _
    rw [List.getElem?_map, show xs[k]? = some x from h]
    rfl
theorem ev_Dix {j : Nat} {a : Addr} {xs : List Int} {i x : Int} (hj : δ[j]? = some (.ow (RDl a xs))) (hx : atI xs i = some x) (q : Φ (.pu (.int x)) δ) : EvS K (tOp (rIxL K) (tVar j) (tC (.int i))) δ Φ := fun B H σ F Q S k => by
  obtain ⟨ev, hp⟩ := dl_at S hj
  exact ⟨_, ev, a, _, i, _, rfl, rfl, SqL.of hp, atI_map hx, k _ (fun _ => False) (.pu (.int x)) B H δ (Ex.refl _) (fun _ _ => rfl) (S.less fun a z => z.elim id False.elim) ⟨.int x, fun _ z => z⟩ (fun _ z => z.elim) q⟩
theorem ev_Dlen {j : Nat} {a : Addr} {xs : List Int} (hj : δ[j]? = some (.ow (RDl a xs))) (q : Φ (.pu (.int (xs.length : Int))) δ) : EvS K (tCB (fun xs H Q => ∃ p ys, xs = [.ref p] ∧ (SqL K H p ys ∨ SqT K H p ys) ∧ Q (.int ys.length) H) (tCons (tVar j) tNil)) δ Φ := fun B H σ F Q S k => by
  obtain ⟨ev, hp⟩ := dl_at S hj
  refine ⟨_, ev, a, _, rfl, .inl (SqL.of hp), ?_⟩
  rw [List.length_map]
  exact k _ (fun _ => False) (.pu (.int _)) B H δ (Ex.refl _) (fun _ _ => rfl) (S.less fun a z => z.elim id False.elim) ⟨.int _, fun _ z => z⟩ (fun _ z => z.elim) q
theorem Sd.dl {j : Nat} {a : Addr} {xs : List Int} (S : Sd K B H σ δ F) (hj : δ[j]? = some (.ow (RDl a xs))) (ys : List Int) : Sd K B (upd H a (.lst (ys.map V.int))) σ (δ.set j (.ow (RDl a ys))) F ∧ ∀ b, F b → upd H a (.lst (ys.map V.int)) b = H b := by
  obtain ⟨v, M, ev, ⟨rfl, hp, hM⟩, hb, hF, op⟩ := S.opn hj
  refine ⟨?_, fun b z => upd_ne fun e => hF b ((hM b).mpr e) z⟩
  have q2 := op B (upd H a (.lst (ys.map V.int))) (some (.ref a)) (.ow (RDl a ys)) M (Ex.refl _) (fun c u ha' => by
      rw [upd_ne (fun e => by rw [e, hb a ((hM a).mpr rfl)] at ha'; cases ha')]
      exact S.bh c u ha') (fun c o ha' nm => by rw [upd_ne (fun e => nm ((hM c).mpr e))]; exact ha') (fun _ _ z => .inl z)
      ⟨_, rfl, ⟨rfl, upd_same, hM⟩, hb⟩ (fun a z => .inl z)
  rwa [set_self ev] at q2
theorem er_map : ∀ (xs : List Int) (i : Nat), (xs.map V.int).eraseIdx i = (xs.eraseIdx i).map V.int
  | [], _ => rfl
  | _ :: _, 0 => rfl
  | x :: r, i + 1 => by
    show V.int x :: (r.map V.int).eraseIdx i = _
    rw [er_map r i]
    rfl
theorem ev_Dpop {j : Nat} {a : Addr} {xs : List Int} {i : Nat} {x : Int} (hj : δ[j]? = some (.ow (RDl a xs))) (hx : xs[i]? = some x) (hl : xs.length ≤ 100000) (q : Φ (.pu (.int x)) (δ.set j (.ow (RDl a (xs.eraseIdx i))))) : EvS K (tBM K "list" rPopAt (tVar j) (tCons (tC (.int (i : Int))) tNil)) δ Φ := fun B H σ F Q S k => by
  obtain ⟨ev, hp⟩ := dl_at S hj
  obtain ⟨S2, f2⟩ := S.dl hj (xs.eraseIdx i)
  have hil : i < xs.length := (List.getElem?_eq_some_iff.mp hx).1
  refine ⟨_, ev, .inl ⟨rfl, _, SqL.of hp⟩, a, _, (i : Int), i, .int x, rfl, rfl, hp, by omega, by omega, ?_, by rw [List.getElem?_map, hx]; rfl, ?_⟩
  · unfold seqIndex?
    have h1 : ¬ ((i : Int) < 0) := by omega
    simp [h1, hil]
  · rw [show (xs.map V.int).eraseIdx i = (xs.eraseIdx i).map V.int from er_map xs i]
    exact k _ (fun _ => False) (.pu (.int x)) B _ _ (Ex.refl _) f2 (S2.less fun a z => z.elim id False.elim) ⟨.int x, fun _ z => z⟩ (fun _ z => z.elim) q
theorem xs_Dset {j : Nat} {i : Int} (h : EvS K te δ fun s δ1 => ∃ (a : Addr) (xs : List Int) (x : Int) (k : Nat), s = .pu (.int x) ∧ δ1[j]? = some (.ow (RDl a xs)) ∧ ixN xs.length i = some k ∧ d.nx (δ1.set j (.ow (RDl a (xs.set k x))))) : ExS K (tAsg te (gSub (tVar j) (tC (.int i)) rSetL)) d δ := fun B H σ F D S L =>
  h B H σ F _ S fun v M s B2 H2 δ1 e f S2 w n ⟨a, xs, x, k, es, hj, hk, q⟩ => by
    subst es
    have S2' : Sd K B2 H2 σ δ1 F := S2.less fun a z => .inl z
    obtain ⟨ev, hp⟩ := dl_at S2' hj
    obtain ⟨S3, f3⟩ := S2'.dl hj (xs.set k x)
    refine ⟨_, ev, a, _, i, k, rfl, rfl, hp, by rw [List.length_map]; exact hk, ?_⟩
    rw [dp_int_inv w.1, show (xs.map V.int).set k (V.int x) = (xs.set k x).map V.int from (by rw [List.map_set])]
    exact L.nx B2 _ σ _ e (fun b z => (f3 b z).trans (f b z)) S3 q
end
/-! ### the law's own def -/
section
variable {P : Program} {w : World} {K : PySem.W.Frag} {mg : Str → Option Value} {base : Heap} {x : Str} {st : Stmt} {N ps : List Str} {k n : Nat} {f : Addr} {fd : FuncData}
theorem fnP {pre : List PyData → Prop} {T : List PyData → Rt → Prop} (F : Fun K x x st f fd) (S : FnScope N ps (defScope st)) (hn : ps.length = n)
    (hbody : ∀ (cdv : Value) (A : Around) (outer : List Env) (s : Shared) (H : Hp) (E : XK), Room k (A.deeper (envOfC x (defScope st) s.heap.objs.size f cdv)) →
      ∃ t, PSs (cxOf CX0 P w K mg base N x (defScope st) f cdv A outer s H E).nox (defBody st) t ∧ ∀ ds, ds.length = n → pre ds → ExS K t { nx := fun _ => T ds (.d .none), rt := RtS K (T ds) } (ds.map Slot.pu ++ List.replicate (N.length - ds.length) Slot.non)) : FnOk P w K mg base CX0 (k + 1) f fd ps (spP K n pre T) :=
  F.ok S (fun vs H Q E h => by rw [spP_len h, hn]) fun cdv A outer s H vs Q E hr h => by
    obtain ⟨t, ht, hx⟩ := hbody cdv A outer s H E hr
    exact ⟨t, ht, body_P h hx⟩
def pLaw (ds : List PyData) : Prop := ∃ ns : List Int, ds = [.list (ns.map PyData.int)] ∧ ns.length ≤ 63
def tLaw (_ : List PyData) (r : Rt) : Prop := r = .d (.bool true)
def spLaw (K : PySem.W.Frag) : Sp := fun vs H Q _ => ∃ (a : Addr) (ns : List Int), vs = [.ref a] ∧ SqL K H a (ns.map V.int) ∧ ns.length ≤ 63 ∧ ∀ H', Q (.bl true) H'
theorem fnLaw (h : FnOk P w K mg base CX0 k f fd ps (spP K 1 pLaw tLaw)) : FnOk P w K mg base CX0 k f fd ps (spLaw K) :=
  h.imp fun vs H Q E ⟨a, ns, e, hs, hl, q⟩ => ⟨H, [.list (ns.map PyData.int)], Ex.refl _, by rw [e]; exact .cons (.lst hs (dpa_ints ns)) .nil, rfl, ⟨ns, rfl, hl⟩, fun v B2 H2 r g ro hr => by
    cases (show r = .d (.bool true) from hr)
    rw [dp_bl_inv ro]
    exact q H2⟩
theorem df_of (F : Fun K x x st f fd) (hm : mg x = some (.ref f)) (b : Binds K fd ps []) : Df K mg x st ps := ⟨f, fd, F, hm, b⟩
/-- a tuple that the top has laid -/
theorem tup_K {b : Addr} {od : Option Addr} {its : Array Value} {n : Nat} {sl : Array (Option Value)} {xs : List V} {ds : List PyData} (h : K.lookup b = some ⟨.type "tuple", od, .seq its n, sl⟩) (hs : its.size ≤ sizeLine) (hv : Vals xs its.toList) (hd : ∀ B : Hp, DpAll K B xs ds) : ∀ B : Hp, Dp K B (.ref b) (.tuple ds) :=
  fun B => .tup (.inr ⟨_, its, n, h, rfl, rfl, hs, hv⟩) (hd B)
/-- a constant of the module -/
structure Cst (K : PySem.W.Frag) (mg : Str → Option Value) (x : Str) (d : PyData) : Prop where
  ex : ∃ v u, mg x = some u ∧ RelV v u ∧ ∀ B : Hp, Dp K B v d
theorem cst_int {i : Int} {t : Tok} (h : mg x = some (.int i t)) : Cst K mg x (.int i) := ⟨.int i, _, h, ⟨t, rfl⟩, fun _ => .int i⟩
theorem cst_str {i : Str} {t : Tok} (h : mg x = some (.str i t)) : Cst K mg x (.str i) := ⟨.str i, _, h, ⟨t, rfl⟩, fun _ => .str i⟩
theorem cst_tup {b : Addr} {ds : List PyData} (h : mg x = some (.ref b)) (hd : ∀ B : Hp, Dp K B (.ref b) (.tuple ds)) : Cst K mg x (.tuple ds) := ⟨.ref b, _, h, rfl, hd⟩
end
end Dl

/-! Rk4: rules whose reading names its frame outright, so that they stand inside a comprehension too. -/
namespace Kk
open PySem PySem.Spec PyProof.Rows L2
theorem hu {j : Nat} {A : Around} (hr : Room j A) : A.units + 1 < cLine := by
  have := hr.units
  omega
section
variable {X : Cx} {K : PySem.W.Frag} {w : World}
theorem ix_tup (h : X.K = K := by rfl) : IxR X (rIxT K) := h ▸ L2.ix_tup
theorem ix_list (h : X.K = K := by rfl) : IxR X (rIxL K) := h ▸ L2.ix_list
theorem ix_both (h : X.K = K := by rfl) : IxR X (fun x y H Q => rIxL K x y H Q ∨ rIxT K x y H Q) := by
  subst h
  intro ve sl pins s σ H x y v u Q I rx ry q hs
  rcases q with q | q
  · exact L2.ix_list ve sl pins s σ H x y v u Q I rx ry q hs
  · exact L2.ix_tup ve sl pins s σ H x y v u Q I rx ry q hs
theorem sl_list (h : X.K = K := by rfl) : SlR X (rSlL K) := h ▸ L2.sl_list
theorem sl_tupA (h : X.K = K := by rfl) : SlR X (rSlA K) := h ▸ L2.sl_tupA
theorem op_in_seq (h : X.K = K := by rfl) : OpR X (compareOp .In) (rIn K false) := h ▸ L2.op_in_seq
theorem op_notIn_seq (h : X.K = K := by rfl) : OpR X (compareOp .NotIn) (rIn K true) := h ▸ L2.op_notIn_seq
theorem op_eqD (a : X.A.units + 64 < cLine) (h : X.K = K := by rfl) : OpR X (compareOp .Eq) (rEqD K) := h ▸ L2.op_eqD a
theorem op_neD (a : X.A.units + 64 < cLine) (h : X.K = K := by rfl) : OpR X (compareOp .NotEq) (rNeD K) := h ▸ L2.op_neD a
theorem op_catA (h : X.K = K := by rfl) : OpR X (binaryOp .Add) (rCatA K) := h ▸ L2.op_catA
theorem op_repT (h : X.K = K := by rfl) : OpR X (binaryOp .Mult) (rRepT K) := h ▸ L2.op_repT
theorem op_catS (h : X.K = K := by rfl) : OpR X (binaryOp .Add) (Rk.rCatS K) := h ▸ Rk.op_catS
theorem call_isi (h : X.K = K := by rfl) : CallR X (.builtin "isinstance") (rIsi K) := h ▸ L2.call_isi
theorem call_len_seq (h : X.K = K := by rfl) : CallR X (.builtin "len") fun xs H Q => ∃ p ys, xs = [V.ref p] ∧ (SqL K H p ys ∨ SqT K H p ys) ∧ Q (V.int ↑ys.length) H := h ▸ L2.call_len_seq
theorem call_list_of (h : X.K = K := by rfl) : CallR X (.type "list") fun xs H Q => ∃ p ys, xs = [V.ref p] ∧ (SqL K H p ys ∨ SqT K H p ys) ∧ ∀ (l : Addr), H l = none → Q (V.ref l) (upd H l (HO.lst ys)) := h ▸ L2.call_list_of
theorem cr_sortedI (h : X.K = K := by rfl) : CallR X (.builtin "sorted") (rSortedI K) := h ▸ L2.cr_sortedI
theorem cr_max (a : X.calm = true) (h : X.K = K := by rfl) : CallR X (.builtin "max") (rMax K) := h ▸ L2.cr_max a
theorem cr_min (a : X.calm = true) (h : X.K = K := by rfl) : CallR X (.builtin "min") (rMin K) := h ▸ L2.cr_min a
theorem cr_sum (a : X.calm = true) (h : X.K = K := by rfl) : CallR X (.builtin "sum") (rSum K) := h ▸ L2.cr_sum a
theorem cr_all (a : X.calm = true) (h : X.K = K := by rfl) : CallR X (.builtin "all") (rAll K) := h ▸ L2.cr_all a
theorem cr_sortedSet (a : X.calm = true) (h : X.w = w := by rfl) : CallR X (.builtin "sorted") (rSortedSet w) := h ▸ L2.cr_sortedSet a
theorem cr_setI (a : X.calm = true) (h : X.K = K := by rfl) (hw : X.w = w := by rfl) : CallR X (.type "set") (Rk.rSetI K w) := by subst h; subst hw; exact Rk.cr_setI a
theorem mt_extendA (h : X.K = K := by rfl) : MtM X "list.extend" (Rk.rExtendA K) := h ▸ Rk.mt_extendA
theorem pi_list {tg l : Expr} {tl : TE} (a : PE X l tl) (h : X.K = K := by rfl) : PI X tg l (iList K tl) := h ▸ L2.pi_list a
theorem pi_tup {tg l : Expr} {tl : TE} (a : PE X l tl) (h : X.K = K := by rfl) : PI X tg l (iTup K tl) := h ▸ L2.pi_tup a
theorem pi_enum {e : Expr} {ta : TA} {p pos tpos : Pos} {elts : List Expr} {kk : Nat} (a : Gl X (Str.ofString "enumerate")) (b : X.mg (Str.ofString "enumerate") = none) (c : PA X [e] ta) (h : X.K = K := by rfl) (d : starEach [e] X.env = [(false, eval e X.env)] := by rfl) :
    PI X (.Tuple elts kk tpos) (.Call (.Name (Str.ofString "enumerate") p) [e] [] pos) (iEnum K ta) := h ▸ L2.pi_enum a b c d
theorem pi_enumT {e : Expr} {ta : TA} {p pos tpos : Pos} {elts : List Expr} {kk : Nat} (a : Gl X (Str.ofString "enumerate")) (b : X.mg (Str.ofString "enumerate") = none) (c : PA X [e] ta) (h : X.K = K := by rfl) (d : starEach [e] X.env = [(false, eval e X.env)] := by rfl) :
    PI X (.Tuple elts kk tpos) (.Call (.Name (Str.ofString "enumerate") p) [e] [] pos) (Rk.iEnumT K ta) := h ▸ Rk.pi_enumT a b c d
theorem pe_tupleOf {a : Expr} {ta : TE} {p pos : Pos} (g : Gl X (Str.ofString "tuple")) (b : X.mg (Str.ofString "tuple") = none) (c : PE X a ta) (h : X.K = K := by rfl) (d : starEach [a] X.env = (false, eval a X.env) :: starEach [] X.env := by rfl) :
    PE X (.Call (.Name (Str.ofString "tuple") p) [a] [] pos) (tThen ta (kTup K)) := h ▸ L2.pe_tupleOf g b c d
theorem pg_tup {pos : Pos} {es : List Expr} {k : Nat} {t : TGs} {n : Nat} (a : X.calm = true) (b : PGs X es t) (h : X.K = K := by rfl) (c : (assignEach es X.env).length = n := by rfl) (d : (assignEach es X.env).findIdx? (fun x => x.1) = none := by rfl) :
    PG X (.Tuple es k pos) (gTup K n t) := h ▸ L2.pg_tup a b c d
theorem pe_bm {o e : Expr} {es : List Expr} {to : TE} {t : TA} {name : Str} {apos cpos : Pos} {T id : String} {r : V → List V → Hp → VK → Prop} (h1 : PlainAttrs T) (h2 : Slot T name id) (h3 : typeOf (Value.builtin id) = pure (Value.type "method_descriptor")) (h4 : MtR X id r) (h5 : PE X o to) (h6 : PA X (e :: es) t)
    (h : X.K = K := by rfl)
    (a1 : attributeBase o name X.env (eval o X.env) = eval o X.env := by rfl)
    (a2 : ((((backTo cpos (starEach (e :: es) X.env)).all fun x => !x.fst) && (backToKw cpos (keywordEach [] X.env)).all fun x => x.fst.isSome) && decide (((e :: es).length + ([] : List Keyword).length + if ([] : List Keyword).isEmpty = true then 0 else 1) < 30)) = true := by rfl)
    (a3 : (apos.endLine == cpos.line) = true := by rfl) (a4 : starEach (e :: es) X.env = (false, eval e X.env) :: starEach es X.env := by rfl) (a5 : ((backTo cpos (starEach es X.env)).any fun x => x.fst) = false := by rfl) :
    PE X (.Call (.Attribute o name apos) (e :: es) [] cpos) (tBM K T r to t) := h ▸ L2.pe_bm h1 h2 h3 h4 h5 h6 a1 a2 a3 a4 a5
theorem pe_bm0 {o : Expr} {to : TE} {name : Str} {apos cpos : Pos} {T id : String} {r : V → List V → Hp → VK → Prop} (h1 : PlainAttrs T) (h2 : Slot T name id) (h3 : typeOf (Value.builtin id) = pure (Value.type "method_descriptor")) (h4 : MtR X id r) (h5 : PE X o to)
    (h : X.K = K := by rfl)
    (a1 : attributeBase o name X.env (eval o X.env) = eval o X.env := by rfl) (a3 : (apos.endLine == cpos.line) = true := by rfl) :
    PE X (.Call (.Attribute o name apos) [] [] cpos) (tBM0 K T r to) := h ▸ L2.pe_bm0 h1 h2 h3 h4 h5 a1 a3
end
end Kk

namespace Kk
open PySem PySem.Spec PyProof.Rows L2
theorem pe_join {X : Cx} {K : PySem.W.Frag} {o e : Expr} {to te : TE} {apos pos : Pos} (ho : PE X o to) (he : PE X e te) (h : X.K = K := by rfl) (hs : starEach [e] X.env = [(false, eval e X.env)] := by rfl) (hbase : attributeBase o "join" X.env (eval o X.env) = eval o X.env := by rfl) (hline : (apos.endLine == pos.line) = true := by rfl) :
    PE X (.Call (.Attribute o "join" apos) [e] [] pos) (tM1 (fun x xs H Q => ∃ a p, ∃ ys : List Str, x = .str a ∧ xs = [.ref p] ∧ (SqL K H p (ys.map V.str) ∨ SqT K H p (ys.map V.str)) ∧
      (ys.map (·.length)).sum + ys.length * a.length ≤ 16777216 ∧ Q (.str (Txt.join a ys)) H) to te) := h ▸ L2.pe_join ho he hs hbase hline
end Kk
namespace Dl
open PySem PySem.Spec PyProof.Rows L2
open Evl (Ex)
section
variable {K : PySem.W.Frag} {w : World} {δ : List Slot} {te ta tb tc : TE} {tr : TA} {tt : TT} {t u : TS} {d : Dn} {Φ : Slot → List Slot → Prop}
theorem dr_strs {B H : Hp} {v : V} {ys : List Str} (e : Ex B H) (h : Dr K B H v (.list (ys.map PyData.str)) ∨ Dr K B H v (.tuple (ys.map PyData.str))) : ∃ p, v = .ref p ∧ (SqL K H p (ys.map V.str) ∨ SqT K H p (ys.map V.str)) := by
  obtain ⟨p, xs, rfl, hs, ha⟩ := dr_seq e h
  have ex := dpa_strs_inv ha
  subst ex
  exact ⟨p, rfl, hs⟩
theorem ev_joinS {a : Str} (h : EvS K te δ fun s δ1 => ∃ ys : List Str, (den K δ1 s (.list (ys.map PyData.str)) ∨ den K δ1 s (.tuple (ys.map PyData.str))) ∧ (ys.map (·.length)).sum + ys.length * a.length ≤ 16777216 ∧ Φ (.pu (.str (Txt.join a ys))) δ1) :
    EvS K (tM1 (fun x xs H Q => ∃ a p, ∃ ys : List Str, x = .str a ∧ xs = [.ref p] ∧ (SqL K H p (ys.map V.str) ∨ SqT K H p (ys.map V.str)) ∧
      (ys.map (·.length)).sum + ys.length * a.length ≤ 16777216 ∧ Q (.str (Txt.join a ys)) H) (tC (.str a)) te) δ Φ := fun B H σ F Q S k =>
  ⟨⟨a, rfl⟩, ev_unP (ta := te) (r := fun y H Q => ∃ a' p, ∃ ys : List Str, V.str a = .str a' ∧ [y] = [.ref p] ∧ (SqL K H p (ys.map V.str) ∨ SqT K H p (ys.map V.str)) ∧ (ys.map (·.length)).sum + ys.length * a'.length ≤ 16777216 ∧ Q (.str (Txt.join a' ys)) H)
    (h.imp fun s δ1 ⟨ys, hd, hl, q⟩ => by
      obtain ⟨x, hx, kx⟩ := den2 (B := fun _ => none) (H := fun _ => none) (v := .non) hd
      exact ⟨x, .str (Txt.join a ys), hx, unP_flat rfl fun B H u Q e dd kk => by
        obtain ⟨p, rfl, hs⟩ := dr_strs e (kx B H u dd)
        exact ⟨a, p, ys, rfl, rfl, hs, hl, kk⟩, q⟩) B H σ F Q S k⟩
theorem dr_strV {B H : Hp} {v : V} {x : Str} (h : Dr K B H v (.str x)) : v = .str x := dr_str h
theorem ev_splitS {b : Str} (h : EvS K ta δ fun s δ1 => ∃ a : Str, s = .pu (.str a) ∧ (b.length == 0) = false ∧ a.length + 2 ≤ sizeLine ∧ Φ (.ow (RL K ((Txt.split a b).map PyData.str))) δ1) :
    EvS K (tM1 (fun x xs H Q => ∃ a b, x = .str a ∧ xs = [.str b] ∧ (b.length == 0) = false ∧ a.length + 2 ≤ sizeLine ∧ rNewStrs (Txt.split a b) H Q) ta (tC (.str b))) δ Φ :=
  ev_unL (r := fun x H Q => (∃ a, x = .str a) ∧ ∃ a b', x = .str a ∧ [V.str b] = [.str b'] ∧ (b'.length == 0) = false ∧ a.length + 2 ≤ sizeLine ∧ rNewStrs (Txt.split a b') H Q) (h.imp fun s δ1 ⟨a, hs, hb, hl, q⟩ => ⟨.str a, _, .inl hs, fun B H u Q e dd kk => by
    rw [dr_str dd]
    exact ⟨⟨a, rfl⟩, a, b, rfl, rfl, hb, hl, fun p hp => kk p _ hp (dpa_strs _)⟩, q⟩)
theorem ev_ixS (h : EvS K ta δ fun s1 δ1 => EvS K tb δ1 fun s2 δ2 => ∃ (z : Str) (i : Int) (c : Nat), s1 = .pu (.str z) ∧ s2 = .pu (.int i) ∧ z.length ≤ sizeLine ∧ atI z.cps.toList i = some c ∧ Φ (.pu (.str ⟨#[c]⟩)) δ2) : EvS K (tOp rIxS ta tb) δ Φ :=
  ev_opP (h.imp fun s1 δ1 h1 => h1.imp fun s2 δ2 ⟨z, i, c, e1, e2, hl, hc, q⟩ => ⟨.str z, .int i, .str ⟨#[c]⟩, .inl e1, .inl e2, opP_flat rfl fun B H u v Q e d1 d2 k => ⟨z, i, c, dr_str d1, dr_int d2, hl, hc, k⟩, q⟩)
theorem ev_inSg (h : EvS K ta δ fun s1 δ1 => EvS K tb δ1 fun s2 δ2 => ∃ (c : Nat) (z : Str), s1 = .pu (.str ⟨#[c]⟩) ∧ s2 = .pu (.str z) ∧ Φ (.pu (.bool (decide (c ∈ z.cps.toList)))) δ2) : EvS K (tOp (fun x y H Q => ∃ (c : Nat) (z : Str), x = .str ⟨#[c]⟩ ∧ y = .str z ∧ Q (.bl (decide (c ∈ z.cps.toList))) H) ta tb) δ Φ :=
  ev_opP (h.imp fun s1 δ1 h1 => h1.imp fun s2 δ2 ⟨c, z, e1, e2, q⟩ => ⟨.str ⟨#[c]⟩, .str z, .bool _, .inl e1, .inl e2, opP_flat rfl fun B H u v Q e d1 d2 k => ⟨c, z, dr_str d1, dr_str d2, k⟩, q⟩)
theorem ev_notInSg (h : EvS K ta δ fun s1 δ1 => EvS K tb δ1 fun s2 δ2 => ∃ (c : Nat) (z : Str), s1 = .pu (.str ⟨#[c]⟩) ∧ s2 = .pu (.str z) ∧ Φ (.pu (.bool (!decide (c ∈ z.cps.toList)))) δ2) : EvS K (tOp (fun x y H Q => ∃ (c : Nat) (z : Str), x = .str ⟨#[c]⟩ ∧ y = .str z ∧ Q (.bl (!decide (c ∈ z.cps.toList))) H) ta tb) δ Φ :=
  ev_opP (h.imp fun s1 δ1 h1 => h1.imp fun s2 δ2 ⟨c, z, e1, e2, q⟩ => ⟨.str ⟨#[c]⟩, .str z, .bool _, .inl e1, .inl e2, opP_flat rfl fun B H u v Q e d1 d2 k => ⟨c, z, dr_str d1, dr_str d2, k⟩, q⟩)
theorem ev_intS (h : EvS K ta δ fun s δ1 => ∃ (a : Str) (n : Int), s = .pu (.str a) ∧ PySem.intText? a = some n ∧ a.length ≤ 640 ∧ Φ (.pu (.int n)) δ1) : EvS K (tCB (fun xs H Q => ∃ a n, xs = [.str a] ∧ PySem.intText? a = some n ∧ a.length ≤ 640 ∧ Q (.int n) H) (tCons ta tNil)) δ Φ :=
  ev_cb1P (h.imp fun s δ1 ⟨a, n, h1, h2, h3, q⟩ => ⟨.str a, .int n, .inl h1, unP_flat rfl fun B H u Q e dd kk => ⟨a, n, by rw [dr_str dd], h2, h3, kk⟩, q⟩)
/-- over a text's signs -/
theorem ev_lcS {g : TG} {vs : List Nat} (h : EvS K ta δ fun s δ1 => ∃ z : Str, s = .pu (.str z) ∧ Wip δ1 vs ∧ ∃ Pv : Nat → List PyData → Prop, Pv 0 [] ∧ (∀ (i : Nat) (c : Nat) acc, z.cps.toList[i]? = some c → Pv i acc → TurnC K g tt te vs δ1 (.str ⟨#[c]⟩) acc (Pv (i + 1))) ∧ ∀ acc, Pv z.cps.toList.length acc → Φ (.ow (RL K acc)) δ1) : EvS K (tLc (iStr ta) g tt te vs) δ Φ := fun B H σ F Q S kk =>
  h B H σ F _ S fun v M s B2 H2 δ1 e f S2 w n ⟨z, es, hw, Pv, h0, hs, hd⟩ => by
    subst es
    have S2' : Sd K B2 H2 σ δ1 F := S2.less fun a z => .inl z
    refine ⟨z, dp_str_inv w.1, ?_⟩
    refine lc_core' (n := z.cps.toList.length) (item := fun i => .str ⟨#[z.cps.toList.getD i 0]⟩) Pv S2' (F0 := F) (fun a z => z) hw (fun i hi B' H' e' f' S' => ?_) (fun B' H' e' f' S' => ?_) h0 (fun i acc hi q => hs i _ acc (by rw [List.getD_eq_getElem?_getD, List.getElem?_eq_getElem hi]; rfl) q) (fun acc v M B3 H3 p e3 f3 S3 hP hM => kk v M (.ow (RL K acc)) B3 H3 δ1 (e.trans e3) (fun a z => (f3 a z).trans (f a z)) S3 hP hM (hd acc p))
    · have hi' : i < z.cps.size := by simpa using hi
      refine ⟨hi', fun y H3 hy => ?_⟩
      obtain ⟨e1, c, hc, e2⟩ := hy
      subst e1 e2
      refine ⟨B', Gr.refl S'.bh, ?_⟩
      have e3 : z.cps.toList.getD i 0 = c := by
        rw [List.getD_eq_getElem?_getD, ← Array.getElem?_toList] at *
        rw [hc]
        rfl
      rw [e3]
      exact .str _
    · show z.cps.size ≤ z.cps.toList.length
      simp
theorem ev_fS {j : Nat} (p : Nat → Bool) (v : Nat → PyData) (h : EvS K ta δ fun s δ1 => ∃ z : Str, s = .pu (.str z) ∧ Wip δ1 [j] ∧ j < δ1.length ∧ z.cps.toList.length ≤ 100000 ∧ (∀ a ∈ z.cps.toList, Turn1C K tt te j δ1 (.str ⟨#[a]⟩) (p a) (v a)) ∧ Φ (.ow (RL K ((z.cps.toList.filter p).map v))) δ1) : EvS K (tLc (iStr ta) (gName j) tt te [j]) δ Φ :=
  ev_lcS (h.imp fun s δ1 ⟨z, hd, hw, hj, hl, ht, q⟩ => ⟨z, hd, hw, fun i acc => acc = ((z.cps.toList.take i).filter p).map v, rfl, fun i c acc hc hacc => by
    subst hacc
    exact turn_filt (g := fun c : Nat => PyData.str ⟨#[c]⟩) hj hl hc (ht c (List.mem_of_getElem? hc)), fun acc hacc => by
    have hacc2 : acc = ((z.cps.toList.take z.cps.toList.length).filter p).map v := hacc
    rw [List.take_length] at hacc2
    rw [hacc2]
    exact q⟩)
theorem memD_none (ns : List Int) : memD .none (ns.map PyData.int) = false := by
  induction ns with
  | nil => rfl
  | cons n r ih => first | exact ih | (unfold memD at ih ⊢; simpa using ih)
end
end Dl

/-! Dl13: objects that are owned, their fields, references into them. -/
namespace Dl
open PySem PySem.Spec PyProof.Rows L2
open Evl (Ex)
/-- R stands at the address a -/
def IsAt (R : Res) (a : Addr) : Prop := ∀ v B H M, R.P v B H M → v = .ref a
/-- the instance at a, which R owns, has data d in its field f -/
def FldD (K : PySem.W.Frag) (R : Res) (a : Addr) (f : Str) (d : PyData) : Prop := ∀ v B H M, R.P v B H M → ∃ C dx fs u, H a = some (.ins C dx fs) ∧ Cls K C ∧ NoAttr K C f ∧ fs.lookup f = some u ∧ Dp K B u d
/-- .. a reference to b -/
def FldR (K : PySem.W.Frag) (R : Res) (a : Addr) (f : Str) (b : Addr) : Prop := ∀ v B H M, R.P v B H M → ∃ C dx fs, H a = some (.ins C dx fs) ∧ Cls K C ∧ NoAttr K C f ∧ fs.lookup f = some (.ref b)
/-- the list at b holds references -/
def ShowsR (R : Res) (b : Addr) (as : List Addr) : Prop := ∀ v B H M, R.P v B H M → H b = some (.lst (as.map V.ref))
/-- to put d into the field f of the instance at a makes R' of R -/
def PutD (K : PySem.W.Frag) (R R' : Res) (a : Addr) (f : Str) (d : PyData) : Prop := ∀ v B H M y, R.P v B H M → Dp K B y d → ∃ C dx fs, H a = some (.ins C dx fs) ∧ M a ∧ Cls K C ∧ NoAttr K C f ∧ fs.length < 1000 ∧ R'.P v B (upd H a (.ins C dx (putF f y fs))) M
/-- to put a new list of ds into the field f of the instance at a makes R' of R -/
def PutL (K : PySem.W.Frag) (R R' : Res) (a : Addr) (f : Str) (ds : List PyData) : Prop := ∀ v B H M r xs, R.P v B H M → H r = some (.lst xs) → DpAll K B xs ds → ¬ M r → ∃ C dx fs, H a = some (.ins C dx fs) ∧ M a ∧ Cls K C ∧ NoAttr K C f ∧ fs.length < 1000 ∧ R'.P v B (upd H a (.ins C dx (putF f (.ref r) fs))) (fun c => M c ∨ c = r)
/-- to append d to the list at b makes R' of R -/
def AppD (K : PySem.W.Frag) (R R' : Res) (b : Addr) (d : PyData) : Prop := ∀ v B H M y, R.P v B H M → Dp K B y d → ∃ xs, H b = some (.lst xs) ∧ M b ∧ xs.length < sizeLine ∧ R'.P v B (upd H b (.lst (xs ++ [y]))) M
/-- the slot is the address a, of R at slot i -/
def At (δ : List Slot) (s : Slot) (i : Nat) (R : Res) (a : Addr) : Prop := δ[i]? = some (.ow R) ∧ (s = .ow (RRef a) ∨ s = .al i ∧ IsAt R a)
section
variable {K : PySem.W.Frag} {w : World} {δ : List Slot} {te ta tb tc : TE} {tr : TA} {tt : TT} {t u : TS} {d : Dn} {Φ : Slot → List Slot → Prop} {B H : Hp} {σ : L2.St} {F F' M : Addr → Prop}
theorem at_ref {v : V} {s : Slot} {i : Nat} {R : Res} {a : Addr} (S : Sd K B H σ δ F') (h : VOk K σ δ B H v M s) (ha : At δ s i R a) : v = .ref a ∧ ∃ v' M', σ[i]? = some (some v') ∧ R.P v' B H M' := by
  obtain ⟨hi, hs⟩ := ha
  obtain ⟨v', M', ev, hP, _⟩ := S.opn hi
  rcases hs with rfl | ⟨rfl, hat⟩
  · exact ⟨h.1, v', M', ev, hP⟩
  · obtain ⟨e, _⟩ := h
    rw [e] at ev
    cases ev
    exact ⟨hat _ _ _ _ hP, _, _, e, hP⟩
theorem ev_fldD {f : Str} (h : EvS K ta δ fun s δ1 => ∃ i R a d, At δ1 s i R a ∧ FldD K R a f d ∧ Φ (.pu d) δ1) : EvS K (tFld K ta f) δ Φ := fun B H σ F Q S k =>
  h B H σ F _ S fun v M s B2 H2 δ1 e fr S2 wk n ⟨i, R, a, d, ha, hf, q⟩ => by
    obtain ⟨rfl, v', M', ev, hP⟩ := at_ref S2 wk ha
    obtain ⟨C, dx, fs, u, h1, h2, h3, h4, h5⟩ := hf _ _ _ _ hP
    exact ⟨a, C, dx, fs, u, rfl, h1, h2, h3, h4, k u (fun _ => False) (.pu d) B2 H2 δ1 e (fun a z => fr a z) ((S2.less fun a z => .inl z).less fun a z => z.elim id False.elim) ⟨h5, fun _ z => z⟩ (fun _ z => z.elim) q⟩
theorem ev_fldR {f : Str} (h : EvS K ta δ fun s δ1 => ∃ i R a b, At δ1 s i R a ∧ FldR K R a f b ∧ Φ (.ow (RRef b)) δ1) : EvS K (tFld K ta f) δ Φ := fun B H σ F Q S k =>
  h B H σ F _ S fun v M s B2 H2 δ1 e fr S2 wk n ⟨i, R, a, b, ha, hf, q⟩ => by
    obtain ⟨rfl, v', M', ev, hP⟩ := at_ref S2 wk ha
    obtain ⟨C, dx, fs, h1, h2, h3, h4⟩ := hf _ _ _ _ hP
    exact ⟨a, C, dx, fs, _, rfl, h1, h2, h3, h4, k (.ref b) (fun _ => False) (.ow (RRef b)) B2 H2 δ1 e (fun a z => fr a z) ((S2.less fun a z => .inl z).less fun a z => z.elim id False.elim) ⟨rfl, fun _ z => z⟩ (fun _ z => z.elim) q⟩
/-- one address of R changes, R' holds behind it -/
theorem Sd.putR {i : Nat} {R : Res} (S : Sd K B H σ δ F) (hi : δ[i]? = some (.ow R)) : ∃ v M, σ[i]? = some (some v) ∧ R.P v B H M ∧ ∀ (a : Addr) (o : HO) (R' : Res), M a → R'.P v B (upd H a o) M → Sd K B (upd H a o) σ (δ.set i (.ow R')) F ∧ ∀ b, F b → upd H a o b = H b := by
  obtain ⟨v, M, ev, hP, hb, hF, op⟩ := S.opn hi
  refine ⟨v, M, ev, hP, fun a o R' ha hR => ⟨?_, fun b z => upd_ne fun e => hF b (by rw [e]; exact ha) z⟩⟩
  have q2 := op B (upd H a o) (some v) (.ow R') M (Ex.refl _) (fun c u ha' => by
      rw [upd_ne (fun e => by rw [e, hb a ha] at ha'; cases ha')]
      exact S.bh c u ha') (fun c o' ha' nm => by rw [upd_ne (fun e => nm (by rw [e]; exact ha))]; exact ha') (fun _ _ z => .inl z)
      ⟨_, rfl, hR, hb⟩ (fun a z => .inl z)
  rwa [set_self ev] at q2
theorem ev_ixRef (h : EvS K ta δ fun s1 δ1 => EvS K tb δ1 fun s2 δ2 => ∃ (b : Addr) (i : Nat) (R : Res) (as : List Addr) (k : Int) (a : Addr), s1 = .ow (RRef b) ∧ δ2[i]? = some (.ow R) ∧ ShowsR R b as ∧ s2 = .pu (.int k) ∧ atI as k = some a ∧ Φ (.ow (RRef a)) δ2) : EvS K (tOp (rIxL K) ta tb) δ Φ := fun B H σ F Q S kk =>
  h B H σ F _ S fun v1 M1 s1 B1 H1 δ1 e1 f1 S1 w1 n1 p1 => p1 B1 H1 σ _ _ S1 fun v2 M2 s2 B2 H2 δ2 e2 f2 S2 w2 n2 ⟨b, i, R, as, k, a, es1, hi, hs, es2, ha, q⟩ => by
    subst es1 es2
    obtain ⟨rfl, hM1⟩ := w1
    obtain ⟨v', M', ev, hP, _⟩ := S2.opn hi
    have hat : atI (as.map V.ref) k = some (.ref a) := by
      unfold atI at ha ⊢
      rw [List.length_map]
      cases e : ixN as.length k with
      | none => rw [e] at ha; cases ha
      | some j =>
        rw [e] at ha
        show (as.map V.ref)[j]? = _
        rw [List.getElem?_map, show as[j]? = some a from ha]
        rfl
    exact ⟨b, _, k, _, rfl, dp_int_inv w2.1, SqL.of (hs _ _ _ _ hP), hat, kk (.ref a) (fun _ => False) (.ow (RRef a)) B2 H2 δ2 (e1.trans e2) (fun c z => (f2 c (.inl z)).trans (f1 c z)) (S2.less fun c z => .inl (.inl (z.elim id False.elim))) ⟨rfl, fun _ z => z⟩ (fun _ z => z.elim) q⟩
/-- a field is stored -/
theorem xs_fldD {f : Str} (h : EvD K tb δ fun x δ1 => EvS K ta δ1 fun s δ2 => ∃ (i : Nat) (R R' : Res) (a : Addr), At δ2 s i R a ∧ PutD K R R' a f x ∧ d.nx (δ2.set i (.ow R'))) : ExS K (sFld K ta tb f) d δ := fun B H σ F D S L =>
  h B H σ F _ S fun v x B1 H1 δ1 e1 f1 S1 hd p => p B1 H1 σ F _ S1 fun u M s B2 H2 δ2 e2 f2 S2 wk n ⟨i, R, R', a, ha, hp, q⟩ => by
    obtain ⟨rfl, _⟩ := at_ref S2 wk ha
    have S2' : Sd K B2 H2 σ δ2 F := S2.less fun c z => .inl z
    obtain ⟨v', M', ev, hP, put⟩ := S2'.putR ha.1
    obtain ⟨C, dx, fs, g1, g2, g3, g4, g5, g6⟩ := hp _ _ _ _ v hP (dp_mono e2 _ _ hd)
    obtain ⟨S3, f3⟩ := put a _ R' g2 g6
    exact ⟨a, C, dx, fs, rfl, g1, g3, g4, g5, L.nx B2 _ σ _ (e1.trans e2) (fun c z => (f3 c z).trans ((f2 c z).trans (f1 c z))) S3 q⟩
/-- xs.append(x), xs a list inside -/
theorem ev_appR (h : EvS K ta δ fun s δ1 => ∃ (b : Addr) (i0 : Nat) (R0 : Res) (ds0 : List PyData), s = .ow (RRef b) ∧ δ1[i0]? = some (.ow R0) ∧ Shows K R0 b ds0 ∧ EvD K te δ1 fun x δ2 => ∃ (i : Nat) (R R' : Res), δ2[i]? = some (.ow R) ∧ AppD K R R' b x ∧ Φ (.pu .none) (δ2.set i (.ow R'))) : EvS K (tBM K "list" rAppend ta (tCons te tNil)) δ Φ := fun B H σ F Q S k =>
  h B H σ F _ S fun v M s B1 H1 δ1 e1 f1 S1 wk n ⟨b, i0, R0, ds0, es, h0, hs0, p⟩ => by
    subst es
    obtain ⟨rfl, hM⟩ := wk
    obtain ⟨v0, M0, ev0, hP0, _⟩ := S1.opn h0
    obtain ⟨xs0, hx0, _⟩ := hs0 _ _ _ _ hP0
    refine ⟨.inl ⟨rfl, xs0, SqL.of hx0⟩, p B1 H1 σ _ _ (S1.less fun c z => .inl z) fun y x B2 H2 δ2 e2 f2 S2 hd ⟨i, R, R', hi, hp, q⟩ => ?_⟩
    obtain ⟨v', M', ev, hP, put⟩ := S2.putR hi
    obtain ⟨xs, g1, g2, g3, g4⟩ := hp _ _ _ _ y hP hd
    obtain ⟨S3, f3⟩ := put b _ R' g2 g4
    exact ⟨b, xs, y, rfl, rfl, g1, g3, k .non (fun _ => False) (.pu .none) B2 _ _ (e1.trans e2) (fun c z => (f3 c z).trans ((f2 c z).trans (f1 c z))) (S3.less fun c z => z.elim id False.elim) ⟨.non, fun _ z => z⟩ (fun _ z => z.elim) q⟩
/-- what a temporary owns moves into R' at slot i, one address of R changes -/
theorem Sd.absorb {i : Nat} {R : Res} {M1 : Addr → Prop} (S : Sd K B H σ δ (fun a => F a ∨ M1 a)) (hFM : ∀ a, M1 a → ¬ F a) (hi : δ[i]? = some (.ow R)) :
    ∃ v M, σ[i]? = some (some v) ∧ R.P v B H M ∧ (∀ a, M a → ¬ M1 a) ∧ ∀ (a : Addr) (o : HO) (R' : Res), M a → R'.P v B (upd H a o) (fun c => M c ∨ M1 c) → Sd K B (upd H a o) σ (δ.set i (.ow R')) F ∧ ∀ b, F b → upd H a o b = H b := by
  obtain ⟨ms, h1, h2, h3, h4⟩ := S.sl
  obtain ⟨v, ev, hP, hb⟩ := h1 i _ hi
  have il : i < δ.length := (List.getElem?_eq_some_iff.mp hi).1
  refine ⟨v, ms i, ev, hP, fun a ha hm => h3 i a ha (.inr hm), fun a o R' ha hR => ?_⟩
  have ne : ∀ c, c ≠ a → upd H a o c = H c := fun c hc => upd_ne hc
  have nF : ∀ c, F c → c ≠ a := fun c hc e => h3 i a ha (.inl (e ▸ hc))
  refine ⟨⟨fun c u hc => ?_, by rw [List.length_set]; exact S.len, fun c hc => S.fb c (.inl hc), fun c hc => by rw [ne c (nF c hc)]; exact S.fl c (.inl hc), updM ms i (fun c => ms i c ∨ M1 c), fun j t ht => ?_, fun j l c hj hl => ?_, fun j c hj => ?_, fun j c hj => ?_⟩, fun c hc => ne c (nF c hc)⟩
  · rw [ne c (fun e => by rw [e, hb a ha] at hc; cases hc)]
    exact S.bh c u hc
  · by_cases e : j = i
    · subst e
      rw [List.getElem?_set_self il] at ht
      cases ht
      rw [updM_eq rfl]
      exact ⟨v, ev, hR, fun c hc => hc.elim (hb c) fun z => S.fb c (.inr z)⟩
    · rw [List.getElem?_set_ne (Ne.symm e)] at ht
      rw [updM_ne e]
      have q := h1 j t ht
      cases t with
      | non => exact q
      | pu d => exact q
      | ow R2 =>
        obtain ⟨u, e3, hP2, hb2⟩ := q
        exact ⟨u, e3, R2.loc hP2 (Ex.refl _) (fun c hc => ne c fun e4 => e (h2 j i a (e4 ▸ hc) ha)), hb2⟩
      | al _ => exact q
  · by_cases e : j = i
    · subst e
      by_cases e2 : l = j
      · exact e2.symm
      · rw [updM_eq rfl] at hj
        rw [updM_ne e2] at hl
        rcases hj with hj | hj
        · exact h2 _ _ c hj hl
        · exact absurd (.inr hj) (h3 l c hl)
    · rw [updM_ne e] at hj
      by_cases e2 : l = i
      · subst e2
        rw [updM_eq rfl] at hl
        rcases hl with hl | hl
        · exact h2 _ _ c hj hl
        · exact absurd (.inr hl) (h3 j c hj)
      · rw [updM_ne e2] at hl
        exact h2 _ _ c hj hl
  · by_cases e : j = i
    · subst e
      rw [updM_eq rfl] at hj
      rcases hj with hj | hj
      · exact fun z => h3 j c hj (.inl z)
      · exact hFM c hj
    · rw [updM_ne e] at hj
      exact fun z => h3 j c hj (.inl z)
  · rw [List.length_set]
    by_cases e : j = i
    · rw [e]; exact il
    · rw [updM_ne e] at hj
      exact h4 j c hj
/-- a field is given a new list -/
theorem xs_fldL {f : Str} (h : EvS K tb δ fun s1 δ1 => ∃ ds, s1 = .ow (RL K ds) ∧ EvS K ta δ1 fun s δ2 => ∃ (i : Nat) (R R' : Res) (a : Addr), At δ2 s i R a ∧ PutL K R R' a f ds ∧ d.nx (δ2.set i (.ow R'))) : ExS K (sFld K ta tb f) d δ := fun B H σ F D S L =>
  h B H σ F _ S fun v M1 s1 B1 H1 δ1 e1 f1 S1 w1 n1 ⟨ds, es, p⟩ => p B1 H1 σ _ _ S1 fun u M s B2 H2 δ2 e2 f2 S2 wk n ⟨i, R, R', a, ha, hp, q⟩ => by
    subst es
    obtain ⟨r, xs, rfl, hr, hx, hM1⟩ := w1
    obtain ⟨rfl, _⟩ := at_ref S2 wk ha
    have S2' : Sd K B2 H2 σ δ2 (fun a => F a ∨ M1 a) := S2.less fun c z => .inl z
    obtain ⟨v', M', ev, hP, hdis, put⟩ := S2'.absorb (fun c hc hf => n1 c hc hf) ha.1
    have hr2 : H2 r = some (.lst xs) := by rw [f2 r (.inr ((hM1 r).mpr rfl))]; exact hr
    have hE : M1 = fun c => c = r := funext fun c => propext (hM1 c)
    obtain ⟨C, dx, fs, g1, g2, g3, g4, g5, g6⟩ := hp _ _ _ _ r xs hP hr2 (dpa_mono e2 _ _ hx) (fun hm => hdis r hm ((hM1 r).mpr rfl))
    obtain ⟨S3, f3⟩ := put a _ R' g2 (by rw [hE]; exact g6)
    exact ⟨a, C, dx, fs, rfl, g1, g3, g4, g5, L.nx B2 _ σ _ (e1.trans e2) (fun c z => (f3 c z).trans ((f2 c (.inl z)).trans (f1 c z))) S3 q⟩
end
end Dl

/-! Dl14: cells that are owned together; a slot changes, in general; loops whose items are references. -/
namespace Dl
open PySem PySem.Spec PyProof.Rows L2
open Evl (Ex)
inductive CV where
  | d (x : PyData) | r (a : Addr)
inductive Cell where
  | ins (C : Addr) (fs : List (Str × CV)) | lst (xs : List CV) | dct (fs : List (Str × CV)) | tup (xs : List CV)
abbrev Cells := List (Addr × Cell)
def CvOk (K : PySem.W.Frag) (B : Hp) (v : V) : CV → Prop
  | .d x => Dp K B v x
  | .r a => v = .ref a
inductive CvAll (K : PySem.W.Frag) (B : Hp) : List V → List CV → Prop
  | nil : CvAll K B [] []
  | cons {v : V} {c : CV} {vs : List V} {cs : List CV} : CvOk K B v c → CvAll K B vs cs → CvAll K B (v :: vs) (c :: cs)
inductive FsAll (K : PySem.W.Frag) (B : Hp) : List (Str × V) → List (Str × CV) → Prop
  | nil : FsAll K B [] []
  | cons {f : Str} {v : V} {c : CV} {vs : List (Str × V)} {cs : List (Str × CV)} : CvOk K B v c → FsAll K B vs cs → FsAll K B ((f, v) :: vs) ((f, c) :: cs)
/-- a dict whose keys are texts -/
inductive TsAll (K : PySem.W.Frag) (B : Hp) : List (Key × V) → List (Str × CV) → Prop
  | nil : TsAll K B [] []
  | cons {f : Str} {v : V} {c : CV} {vs : List (Key × V)} {cs : List (Str × CV)} : CvOk K B v c → TsAll K B vs cs → TsAll K B ((.inr f, v) :: vs) ((f, c) :: cs)
def putT (fs : List (Str × CV)) (f : Str) (c : CV) : List (Str × CV) :=
  if (fs.any fun kv => decide (kv.1 = f)) = true then fs.map (fun kv => if kv.1 = f then (kv.1, c) else kv) else fs ++ [(f, c)]
def putC (f : Str) (v : CV) : List (Str × CV) → List (Str × CV)
  | [] => [(f, v)]
  | (g, x) :: r => if g = f then (g, v) :: r else (g, x) :: putC f v r
section
variable {K : PySem.W.Frag} {B B' H : Hp}
theorem cv_mono (e : Ex B B') {v : V} {c : CV} (h : CvOk K B v c) : CvOk K B' v c := by
  cases c with
  | d x => exact dp_mono e _ _ h
  | r a => exact h
theorem cva_mono (e : Ex B B') : ∀ {vs : List V} {cs : List CV}, CvAll K B vs cs → CvAll K B' vs cs
  | _, _, .nil => .nil
  | _, _, .cons h t => .cons (cv_mono e h) (cva_mono e t)
theorem fsa_mono (e : Ex B B') : ∀ {vs : List (Str × V)} {cs : List (Str × CV)}, FsAll K B vs cs → FsAll K B' vs cs
  | _, _, .nil => .nil
  | _, _, .cons h t => .cons (cv_mono e h) (fsa_mono e t)
theorem tsa_mono (e : Ex B B') : ∀ {vs : List (Key × V)} {cs : List (Str × CV)}, TsAll K B vs cs → TsAll K B' vs cs
  | _, _, .nil => .nil
  | _, _, .cons h t => .cons (cv_mono e h) (tsa_mono e t)
theorem tsa_len : ∀ {vs : List (Key × V)} {cs : List (Str × CV)}, TsAll K B vs cs → vs.length = cs.length
  | _, _, .nil => rfl
  | _, _, .cons _ t => by simp [tsa_len t]
theorem tsa_app : ∀ {xs ys : List (Key × V)} {cs es : List (Str × CV)}, TsAll K B xs cs → TsAll K B ys es → TsAll K B (xs ++ ys) (cs ++ es)
  | _, _, _, _, .nil, s => s
  | _, _, _, _, .cons r t, s => .cons r (tsa_app t s)
theorem tsa_some {f : Str} {c : CV} : ∀ {xs : List (Key × V)} {fs : List (Str × CV)}, TsAll K B xs fs → fs.lookup f = some c → ∃ v, valV xs (.inr f) = some v ∧ CvOk K B v c
  | _, _, .nil, e => by cases e
  | _, _, @TsAll.cons _ _ g v c' xs fs h t, e => by
    rw [List.lookup_cons] at e
    cases q : f == g with
    | true =>
      rw [q] at e
      cases e
      have : g = f := (eq_of_beq q).symm
      subst this
      exact ⟨v, valV_pos rfl, h⟩
    | false =>
      rw [q] at e
      rw [valV_neg (fun z => by cases z; simp at q)]
      exact tsa_some t e
theorem tsa_any {f : Str} : ∀ {xs : List (Key × V)} {fs : List (Str × CV)}, TsAll K B xs fs → (xs.any fun kv => decide (kv.1 = (.inr f : Key))) = (fs.any fun kv => decide (kv.1 = f))
  | _, _, .nil => rfl
  | _, _, @TsAll.cons _ _ g v c' xs fs h t => by
    rw [List.any_cons, List.any_cons, tsa_any t]
    congr 1
    exact decide_eq_decide.mpr ⟨fun z => Sum.inr.inj z, fun z => congrArg Sum.inr z⟩
theorem tsa_map {f : Str} {v : V} {c : CV} (hd : CvOk K B v c) : ∀ {xs : List (Key × V)} {fs : List (Str × CV)}, TsAll K B xs fs → TsAll K B (xs.map fun kv => if kv.1 = (.inr f : Key) then (kv.1, v) else kv) (fs.map fun kv => if kv.1 = f then (kv.1, c) else kv)
  | _, _, .nil => .nil
  | _, _, @TsAll.cons _ _ g v' c' xs fs h t => by
    rw [List.map_cons, List.map_cons]
    by_cases e : g = f
    · subst e
      rw [if_pos rfl, if_pos rfl]
      exact .cons hd (tsa_map hd t)
    · rw [if_neg (fun z => e (Sum.inr.inj z)), if_neg e]
      exact .cons h (tsa_map hd t)
theorem tsa_put {f : Str} {v : V} {c : CV} (hd : CvOk K B v c) {xs : List (Key × V)} {fs : List (Str × CV)} (h : TsAll K B xs fs) : TsAll K B (putK xs (.inr f) v) (putT fs f c) := by
  unfold putK putT
  rw [tsa_any h]
  split
  · exact tsa_map hd h
  · exact tsa_app h (.cons hd .nil)
theorem cva_set {v : V} {c : CV} (r : CvOk K B v c) : ∀ {xs : List V} {cs : List CV} (i : Nat), CvAll K B xs cs → CvAll K B (xs.set i v) (cs.set i c)
  | _, _, _, .nil => .nil
  | _, _, 0, .cons _ t => .cons r t
  | _, _, i + 1, .cons q t => .cons q (cva_set r i t)
theorem cva_len : ∀ {vs : List V} {cs : List CV}, CvAll K B vs cs → vs.length = cs.length
  | _, _, .nil => rfl
  | _, _, .cons _ t => by simp [cva_len t]
theorem fsa_len : ∀ {vs : List (Str × V)} {cs : List (Str × CV)}, FsAll K B vs cs → vs.length = cs.length
  | _, _, .nil => rfl
  | _, _, .cons _ t => by simp [fsa_len t]
theorem cva_app : ∀ {xs ys : List V} {cs es : List CV}, CvAll K B xs cs → CvAll K B ys es → CvAll K B (xs ++ ys) (cs ++ es)
  | _, _, _, _, .nil, s => s
  | _, _, _, _, .cons r t, s => .cons r (cva_app t s)
theorem cva_data : ∀ {vs : List V} {ds : List PyData}, DpAll K B vs ds → CvAll K B vs (ds.map .d)
  | _, _, .nil => .nil
  | _, _, .cons h t => .cons h (cva_data t)
theorem cva_data' : ∀ {ds : List PyData} {vs : List V}, CvAll K B vs (ds.map .d) → DpAll K B vs ds
  | [], _, h => by cases h; exact .nil
  | d :: ds, _, h => by
    cases h with
    | cons h1 h2 => exact .cons h1 (cva_data' h2)
theorem cva_refs : ∀ {as : List Addr} {vs : List V}, CvAll K B vs (as.map .r) → vs = as.map V.ref
  | [], _, h => by cases h; rfl
  | a :: as, _, h => by
    cases h with
    | cons h1 h2 =>
      rw [cva_refs h2, show _ = V.ref a from h1]
      rfl
theorem cva_refs' : ∀ (as : List Addr), CvAll K B (as.map V.ref) (as.map .r)
  | [] => .nil
  | a :: as => .cons rfl (cva_refs' as)
theorem fsa_some {f : Str} {c : CV} : ∀ {xs : List (Str × V)} {fs : List (Str × CV)}, FsAll K B xs fs → fs.lookup f = some c → ∃ v, xs.lookup f = some v ∧ CvOk K B v c
  | _, _, .nil, e => by cases e
  | _, _, @FsAll.cons _ _ g v c' xs fs h t, e => by
    rw [List.lookup_cons] at e ⊢
    cases q : f == g with
    | true =>
      rw [q] at e
      cases e
      exact ⟨v, rfl, h⟩
    | false =>
      rw [q] at e
      exact fsa_some t e
theorem fsa_none {f : Str} : ∀ {xs : List (Str × V)} {fs : List (Str × CV)}, FsAll K B xs fs → fs.lookup f = none → xs.lookup f = none
  | _, _, .nil, e => rfl
  | _, _, @FsAll.cons _ _ g v c' xs fs h t, e => by
    rw [List.lookup_cons] at e ⊢
    cases q : f == g with
    | true =>
      rw [q] at e
      cases e
    | false =>
      rw [q] at e
      exact fsa_none t e
theorem fsa_put {f : Str} {v : V} {c : CV} (hc : CvOk K B v c) : ∀ {xs : List (Str × V)} {fs : List (Str × CV)}, FsAll K B xs fs → FsAll K B (putF f v xs) (putC f c fs)
  | _, _, .nil => .cons hc .nil
  | _, _, @FsAll.cons _ _ g v' c' xs fs h t => by
    show FsAll K B (if g = f then _ else _) (if g = f then _ else _)
    by_cases e : g = f
    · rw [if_pos e, if_pos e]
      exact .cons hc t
    · rw [if_neg e, if_neg e]
      exact .cons h (fsa_put hc t)
end
def CellAt (K : PySem.W.Frag) (B : Hp) (o : Option HO) : Cell → Prop
  | .ins C fs => ∃ dx xs, o = some (.ins C dx xs) ∧ FsAll K B xs fs
  | .lst cs => ∃ vs, o = some (.lst vs) ∧ CvAll K B vs cs
  | .dct fs => ∃ xs, o = some (.dK xs) ∧ TsAll K B xs fs
  | .tup cs => ∃ vs, o = some (.tup vs) ∧ CvAll K B vs cs
theorem cell_mono {K : PySem.W.Frag} {B B' : Hp} {o : Option HO} {c : Cell} (e : Ex B B') (h : CellAt K B o c) : CellAt K B' o c := by
  cases c with
  | ins C fs => obtain ⟨dx, xs, h1, h2⟩ := h; exact ⟨dx, xs, h1, fsa_mono e h2⟩
  | lst cs => obtain ⟨vs, h1, h2⟩ := h; exact ⟨vs, h1, cva_mono e h2⟩
  | dct fs => obtain ⟨vs, h1, h2⟩ := h; exact ⟨vs, h1, tsa_mono e h2⟩
  | tup cs => obtain ⟨vs, h1, h2⟩ := h; exact ⟨vs, h1, cva_mono e h2⟩
theorem cell_some {K : PySem.W.Frag} {B : Hp} {o : Option HO} {c : Cell} (h : CellAt K B o c) : o ≠ none := by
  cases c with
  | ins C fs => obtain ⟨dx, xs, h1, h2⟩ := h; rw [h1]; exact fun z => nomatch z
  | lst cs => obtain ⟨vs, h1, h2⟩ := h; rw [h1]; exact fun z => nomatch z
  | dct fs => obtain ⟨vs, h1, h2⟩ := h; rw [h1]; exact fun z => nomatch z
  | tup cs => obtain ⟨vs, h1, h2⟩ := h; rw [h1]; exact fun z => nomatch z
/-- cells, all owned, told by the first one's address -/
def RH (K : PySem.W.Frag) (root : Addr) (cs : Cells) : Res where
  P v B H M := v = .ref root ∧ (∀ x ∈ cs, CellAt K B (H x.1) x.2) ∧ (cs.map (·.1)).Nodup ∧ ∀ a, M a ↔ a ∈ cs.map (·.1)
  loc := by
    rintro v B H B' H' M ⟨h0, h1, h2, h3⟩ e k
    refine ⟨h0, fun x hx => ?_, h2, h3⟩
    rw [k x.1 ((h3 x.1).mpr (List.mem_map.mpr ⟨x, hx, rfl⟩))]
    exact cell_mono e (h1 x hx)
  live := by
    rintro v B H M ⟨h0, h1, h2, h3⟩ a ha
    obtain ⟨x, hx, rfl⟩ := List.mem_map.mp ((h3 a).mp ha)
    exact cell_some (h1 x hx)
/-- the cell c stands at a, another one in its place makes cs' of all -/
def Has (cs : Cells) (a : Addr) (c : Cell) (cs' : Cell → Cells) : Prop := ∃ pre post, cs = pre ++ (a, c) :: post ∧ ∀ c', cs' c' = pre ++ (a, c') :: post
theorem Has.mem {cs : Cells} {a : Addr} {c : Cell} {cs' : Cell → Cells} (h : Has cs a c cs') : (a, c) ∈ cs := by
  obtain ⟨pre, post, rfl, _⟩ := h
  exact List.mem_append_right _ (List.mem_cons_self ..)
section
variable {K : PySem.W.Frag} {B H : Hp} {root a b : Addr} {cs : Cells} {cs' : Cell → Cells} {v : V} {M : Addr → Prop} {c : Cell} {C : Addr} {fs : List (Str × CV)} {f : Str} {x : PyData} {xs : List CV}
theorem RH.get (h : (RH K root cs).P v B H M) (hm : (a, c) ∈ cs) : CellAt K B (H a) c ∧ M a := ⟨h.2.1 (a, c) hm, (h.2.2.2 a).mpr (List.mem_map.mpr ⟨(a, c), hm, rfl⟩)⟩
theorem RH.put {o : HO} {c' : Cell} (h : (RH K root cs).P v B H M) (hh : Has cs a c cs') (ho : CellAt K B (some o) c') : (RH K root (cs' c')).P v B (upd H a o) M := by
  obtain ⟨pre, post, rfl, e⟩ := hh
  obtain ⟨h0, h1, h2, h3⟩ := h
  rw [e c']
  have hk : (pre ++ (a, c') :: post).map (·.1) = (pre ++ (a, c) :: post).map (·.1) := by simp
  rw [List.map_append, List.map_cons] at h2
  have hn := List.nodup_append.mp h2
  refine ⟨h0, fun y hy => ?_, by rw [hk, List.map_append, List.map_cons]; exact h2, fun d => by rw [hk]; exact h3 d⟩
  rcases List.mem_append.mp hy with hy | hy
  · have ne : y.1 ≠ a := fun z => hn.2.2 y.1 (List.mem_map.mpr ⟨y, hy, rfl⟩) a (List.mem_cons_self ..) z
    rw [upd_ne ne]
    exact h1 y (List.mem_append_left _ hy)
  · rcases List.mem_cons.mp hy with rfl | hy
    · rw [upd_same]; exact ho
    · have ne : y.1 ≠ a := fun z => (List.nodup_cons.mp hn.2.1).1 (z ▸ List.mem_map.mpr ⟨y, hy, rfl⟩)
      rw [upd_ne ne]
      exact h1 y (List.mem_append_right _ (List.mem_cons_of_mem _ hy))
/-- fewer cells, in another order -/
theorem RH.sub {cs2 : Cells} (h : (RH K root cs).P v B H M) (hs : ∀ x ∈ cs2, x ∈ cs) (hn : (cs2.map (·.1)).Nodup) : (RH K root cs2).P v B H (fun a => a ∈ cs2.map (·.1)) := ⟨h.1, fun x hx => h.2.1 x (hs x hx), hn, fun _ => Iff.rfl⟩
theorem rh_at : IsAt (RH K root cs) root := fun v B H M h => h.1
theorem fld_d (hm : (a, Cell.ins C fs) ∈ cs) (hf : fs.lookup f = some (.d x)) (k : Cls K C) (n : NoAttr K C f) : FldD K (RH K root cs) a f x := fun v B H M h => by
  obtain ⟨⟨dx, ys, e1, e2⟩, _⟩ := RH.get h hm
  obtain ⟨u, e3, e4⟩ := fsa_some e2 hf
  exact ⟨C, dx, ys, u, e1, k, n, e3, e4⟩
theorem fld_r (hm : (a, Cell.ins C fs) ∈ cs) (hf : fs.lookup f = some (.r b)) (k : Cls K C) (n : NoAttr K C f) : FldR K (RH K root cs) a f b := fun v B H M h => by
  obtain ⟨⟨dx, ys, e1, e2⟩, _⟩ := RH.get h hm
  obtain ⟨u, e3, e4⟩ := fsa_some e2 hf
  exact ⟨C, dx, ys, e1, k, n, by rw [e3, show u = .ref b from e4]⟩
theorem put_d (hh : Has cs a (.ins C fs) cs') (k : Cls K C) (n : NoAttr K C f) (hl : fs.length < 1000) : PutD K (RH K root cs) (RH K root (cs' (.ins C (putC f (.d x) fs)))) a f x := fun v B H M y h hy => by
  obtain ⟨⟨dx, ys, e1, e2⟩, hM⟩ := RH.get h hh.mem
  exact ⟨C, dx, ys, e1, hM, k, n, by rw [fsa_len e2]; exact hl, RH.put h hh ⟨dx, _, rfl, fsa_put (c := .d x) hy e2⟩⟩
theorem app_d (hh : Has cs a (.lst xs) cs') (hl : xs.length < 100000) : AppD K (RH K root cs) (RH K root (cs' (.lst (xs ++ [.d x])))) a x := fun v B H M y h hy => by
  obtain ⟨⟨ys, e1, e2⟩, hM⟩ := RH.get h hh.mem
  exact ⟨ys, e1, hM, Evl.sz_lt (by rw [cva_len e2]; exact hl), RH.put h hh ⟨_, rfl, cva_app e2 (.cons hy .nil)⟩⟩
theorem shows_d {ds : List PyData} (hm : (a, Cell.lst (ds.map .d)) ∈ cs) : Shows K (RH K root cs) a ds := fun v B H M h => by
  obtain ⟨⟨ys, e1, e2⟩, _⟩ := RH.get h hm
  exact ⟨ys, e1, cva_data' e2⟩
theorem shows_r {as : List Addr} (hm : (a, Cell.lst (as.map .r)) ∈ cs) : ShowsR (RH K root cs) a as := fun v B H M h => by
  obtain ⟨⟨ys, e1, e2⟩, _⟩ := RH.get h hm
  rw [e1, cva_refs e2]
end
/-- some one of them -/
def RAny {α : Type} (f : α → Res) : Res where
  P v B H M := ∃ x, (f x).P v B H M
  loc := fun ⟨x, h⟩ e k => ⟨x, (f x).loc h e k⟩
  live := fun ⟨x, h⟩ => (f x).live h
section
variable {K : PySem.W.Frag} {w : World} {δ : List Slot} {te ta tb tc : TE} {tr : TA} {tt : TT} {t u : TS} {d : Dn} {Φ : Slot → List Slot → Prop} {B H : Hp} {σ : L2.St} {F M1 : Addr → Prop}
/-- a slot changes, in general: a temporary's own M1 may move into it, its own and what is new may move out -/
theorem Sd.chg {i : Nat} {R : Res} (S : Sd K B H σ δ (fun a => F a ∨ M1 a)) (hFM : ∀ a, M1 a → ¬ F a) (hi : δ[i]? = some (.ow R)) :
    ∃ v M, σ[i]? = some (some v) ∧ R.P v B H M ∧ (∀ a, M a → B a = none) ∧ (∀ a, M a → ¬ F a ∧ ¬ M1 a) ∧
      ∀ (B2 H2 : Hp) (x : Option V) (s' : Slot) (M' M2 : Addr → Prop), Ex B B2 → Ex B2 H2 → (∀ a o, H a = some o → ¬ M a → ¬ M1 a → H2 a = some o) → (∀ a o, B2 a = some o → B a = some o ∨ H a = none ∨ M a ∨ M1 a) →
        SlotIn K B2 H2 (some x) M' s' → (∀ a, M' a → M a ∨ M1 a ∨ H a = none) → (∀ a, M2 a → (M a ∨ M1 a ∨ H a = none) ∧ B2 a = none ∧ H2 a ≠ none ∧ ¬ M' a) →
        Sd K B2 H2 (σ.set i x) (δ.set i s') (fun a => F a ∨ M2 a) := by
  obtain ⟨ms, h1, h2, h3, h4⟩ := S.sl
  obtain ⟨v, ev, hP, hb⟩ := h1 i _ hi
  refine ⟨v, ms i, ev, hP, hb, fun a z => ⟨fun f => h3 i a z (.inl f), fun m => h3 i a z (.inr m)⟩, fun B2 H2 x s' M' M2 e1 e2 k nw hs hM hM2 => ?_⟩
  have il : i < δ.length := (List.getElem?_eq_some_iff.mp hi).1
  have fb2 : ∀ a, B a = none → H a ≠ none → ¬ ms i a → ¬ M1 a → B2 a = none := fun a b1 b2 b3 b4 => by
    cases q : B2 a with
    | none => rfl
    | some o =>
      rcases nw a o q with z | z | z | z
      · rw [b1] at z; cases z
      · exact absurd z b2
      · exact absurd z b3
      · exact absurd z b4
  have keep : ∀ a, H a ≠ none → ¬ ms i a → ¬ M1 a → H2 a = H a := fun a ha hn hm => by
    obtain ⟨o, ho⟩ := some_of_ne ha
    rw [ho]
    exact k a o ho hn hm
  have nF : ∀ a, F a → ¬ ms i a := fun a f m => h3 i a m (.inl f)
  have nF1 : ∀ a, F a → ¬ M1 a := fun a f m => hFM a m f
  have lv : ∀ j a, ms j a → H a ≠ none := fun j a hj => by
    have hl := h4 j a hj
    obtain ⟨t, ht⟩ : ∃ t, δ[j]? = some t := ⟨δ[j], List.getElem?_eq_getElem hl⟩
    have q := h1 j t ht
    cases t with
    | non => exact absurd hj (q a)
    | pu d => obtain ⟨_, _, _, hM⟩ := q; exact absurd hj (hM a)
    | ow R' => obtain ⟨u, e3, hP', hb'⟩ := q; exact R'.live hP' a hj
    | al _ => exact q.elim
  refine ⟨e2, by simp [S.len], fun a ha => ?_, fun a ha => ?_, updM ms i M', fun j t ht => ?_, fun j l a hj hl => ?_, fun j a hj hf => ?_, fun j a hj => ?_⟩
  · rcases ha with ha | ha
    · exact fb2 a (S.fb a (.inl ha)) (S.fl a (.inl ha)) (nF a ha) (nF1 a ha)
    · exact (hM2 a ha).2.1
  · rcases ha with ha | ha
    · rw [keep a (S.fl a (.inl ha)) (nF a ha) (nF1 a ha)]
      exact S.fl a (.inl ha)
    · exact (hM2 a ha).2.2.1
  · by_cases e : j = i
    · subst e
      rw [List.getElem?_set_self il] at ht
      cases ht
      rw [List.getElem?_set_self (by rw [S.len]; exact il), updM_eq rfl]
      exact hs
    · rw [List.getElem?_set_ne (Ne.symm e)] at ht ⊢
      rw [updM_ne e]
      have q := h1 j t ht
      cases t with
      | non => exact q
      | pu d => obtain ⟨u, e3, hd, hM⟩ := q; exact ⟨u, e3, dp_mono e1 _ _ hd, hM⟩
      | ow R' =>
        obtain ⟨u, e3, hP', hb'⟩ := q
        have nd : ∀ a, ms j a → ¬ ms i a := fun a p p' => e (h2 j i a p p')
        have nm : ∀ a, ms j a → ¬ M1 a := fun a p m => h3 j a p (.inr m)
        exact ⟨u, e3, R'.loc hP' e1 fun a ha => keep a (R'.live hP' a ha) (nd a ha) (nm a ha), fun a ha => fb2 a (hb' a ha) (R'.live hP' a ha) (nd a ha) (nm a ha)⟩
      | al _ => exact q
  · by_cases e : j = i <;> by_cases e3 : l = i
    · rw [e, e3]
    · rw [updM_eq e] at hj
      rw [updM_ne e3] at hl
      rcases hM a hj with z | z | z
      · exact absurd (h2 l i a hl z) e3
      · exact absurd (.inr z) (h3 l a hl)
      · exact absurd z (lv l a hl)
    · rw [updM_ne e] at hj
      rw [updM_eq e3] at hl
      rcases hM a hl with z | z | z
      · exact absurd (h2 j i a hj z) e
      · exact absurd (.inr z) (h3 j a hj)
      · exact absurd z (lv j a hj)
    · rw [updM_ne e] at hj
      rw [updM_ne e3] at hl
      exact h2 j l a hj hl
  · by_cases e : j = i
    · rw [updM_eq e] at hj
      rcases hf with hf | hf
      · rcases hM a hj with z | z | z
        · exact h3 i a z (.inl hf)
        · exact hFM a z hf
        · exact S.fl a (.inl hf) z
      · exact (hM2 a hf).2.2.2 hj
    · rw [updM_ne e] at hj
      rcases hf with hf | hf
      · exact h3 j a hj (.inl hf)
      · rcases (hM2 a hf).1 with z | z | z
        · exact e (h2 j i a hj z)
        · exact h3 j a hj (.inr z)
        · exact lv j a hj z
  · rw [List.length_set]
    by_cases e : j = i
    · rw [e]; exact il
    · rw [updM_ne e] at hj; exact h4 j a hj
/-- what stands in a slot is told otherwise -/
theorem Sd.res_ {i : Nat} {R R2 : Res} (S : Sd K B H σ δ F) (hi : δ[i]? = some (.ow R)) (h : ∀ v M, R.P v B H M → ∃ M', R2.P v B H M' ∧ ∀ a, M' a → M a) : Sd K B H σ (δ.set i (.ow R2)) F := by
  obtain ⟨v, M, ev, hP, hb, hF, op⟩ := S.opn hi
  obtain ⟨M', hP', hs⟩ := h v M hP
  have q := op B H (some v) (.ow R2) M' (Ex.refl _) S.bh (fun _ _ h _ => h) (fun _ _ h => .inl h) ⟨v, rfl, hP', fun a z => hb a (hs a z)⟩ (fun a z => .inl (hs a z))
  rwa [set_self ev] at q
theorem xs_res {i : Nat} {R R2 : Res} (hi : δ[i]? = some (.ow R)) (h : ∀ v B H M, R.P v B H M → ∃ M', R2.P v B H M' ∧ ∀ a, M' a → M a) (q : ExS K t d (δ.set i (.ow R2))) : ExS K t d δ := fun B H σ F D S L => q B H σ F D (S.res_ hi fun v M => h v B H M) L
theorem xs_any {α : Type} {f : α → Res} {i : Nat} (hi : δ[i]? = some (.ow (RAny f))) (q : ∀ x, ExS K t d (δ.set i (.ow (f x)))) : ExS K t d δ := fun B H σ F D S L => by
  obtain ⟨v, M, ev, ⟨x, hP⟩, hb, hF, op⟩ := S.opn hi
  have S' := op B H (some v) (.ow (f x)) M (Ex.refl _) S.bh (fun _ _ h _ => h) (fun _ _ h => .inl h) ⟨v, rfl, hP, hb⟩ (fun a z => .inl z)
  rw [set_self ev] at S'
  exact q x B H σ F D S' L
theorem ev_alR {i : Nat} {a : Addr} (hi : δ[i]? = some (.ow (RRef a))) (h : Φ (.ow (RRef a)) δ) : EvS K (tVar i) δ Φ := fun B H σ F Q S k => by
  obtain ⟨v, M, e, hP, _⟩ := S.opn hi
  exact ⟨v, e, k v (fun _ => False) (.ow (RRef a)) B H δ (Ex.refl _) (fun _ _ => rfl) (S.less fun a z => z.elim id False.elim) ⟨hP.1, fun _ z => z⟩ (fun _ z => z.elim) h⟩
/-- a field is given a new list, whatever its address is -/
def PutN (K : PySem.W.Frag) (R : Res) (R' : Addr → Res) (a : Addr) (f : Str) (ds : List PyData) : Prop := ∀ v B H M r xs, R.P v B H M → H r = some (.lst xs) → DpAll K B xs ds → ¬ M r → ∃ C dx fs, H a = some (.ins C dx fs) ∧ M a ∧ Cls K C ∧ NoAttr K C f ∧ fs.length < 1000 ∧ ∃ M', (R' r).P v B (upd H a (.ins C dx (putF f (.ref r) fs))) M' ∧ ∀ c, M' c → M c ∨ c = r
theorem xs_fldN {f : Str} (h : EvS K tb δ fun s1 δ1 => ∃ ds, s1 = .ow (RL K ds) ∧ EvS K ta δ1 fun s δ2 => ∃ (i : Nat) (R : Res) (R' : Addr → Res) (a : Addr), At δ2 s i R a ∧ PutN K R R' a f ds ∧ ∀ r, d.nx (δ2.set i (.ow (R' r)))) : ExS K (sFld K ta tb f) d δ := fun B H σ F D S L =>
  h B H σ F _ S fun v M1 s1 B1 H1 δ1 e1 f1 S1 w1 n1 ⟨ds, es, p⟩ => p B1 H1 σ _ _ S1 fun u M s B2 H2 δ2 e2 f2 S2 wk n ⟨i, R, R', a, ha, hp, q⟩ => by
    subst es
    obtain ⟨r, xs, rfl, hr, hx, hM1⟩ := w1
    obtain ⟨rfl, _⟩ := at_ref S2 wk ha
    have S2' : Sd K B2 H2 σ δ2 (fun a => F a ∨ M1 a) := S2.less fun c z => .inl z
    obtain ⟨v', M', ev, hP, hb, hdis, op⟩ := S2'.chg (fun c hc hf => n1 c hc hf) ha.1
    have hr2 : H2 r = some (.lst xs) := by rw [f2 r (.inr ((hM1 r).mpr rfl))]; exact hr
    obtain ⟨C, dx, fs, g1, g2, g3, g4, g5, M3, g6, g7⟩ := hp _ _ _ _ r xs hP hr2 (dpa_mono e2 _ _ hx) (fun hm => (hdis r hm).2 ((hM1 r).mpr rfl))
    have hM1b : ∀ c, M1 c → B2 c = none := fun c hc => S2'.fb c (.inr hc)
    have S3 := op B2 (upd H2 a (.ins C dx (putF f (.ref r) fs))) (some v') (.ow (R' r)) M3 (fun _ => False) (Ex.refl _) (fun c u hc => by
      rw [upd_ne (fun e => by rw [e, hb a g2] at hc; cases hc)]
      exact S2.bh c u hc) (fun c o hc hn _ => by rw [upd_ne (fun e => hn (by rw [e]; exact g2))]; exact hc) (fun _ _ z => .inl z) ⟨v', rfl, g6, fun c hc => (g7 c hc).elim (hb c) fun z => hM1b c ((hM1 c).mpr z)⟩ (fun c hc => (g7 c hc).imp id fun z => .inl ((hM1 c).mpr z)) (fun c z => z.elim)
    rw [set_self ev] at S3
    exact ⟨a, C, dx, fs, rfl, g1, g3, g4, g5, L.nx B2 _ σ _ (e1.trans e2) (fun c z => by rw [upd_ne (fun e => (hdis a g2).1 (by rw [← e]; exact z)), f2 c (.inl z), f1 c z]) (S3.less fun c z => .inl z) (q r)⟩
/-! ### loops whose items may be references -/
def CV.slot : CV → Slot
  | .d x => .pu x
  | .r a => .ow (RRef a)
def setC (δ : List Slot) : List (Nat × CV) → List Slot
  | [] => δ
  | p :: ps => setC (δ.set p.1 p.2.slot) ps
theorem Sd.put_cv {i : Nat} {v : V} {c : CV} (S : Sd K B H σ δ F) (h : CvOk K B v c) (hi : i < δ.length) : Sd K B H (σ.set i (some v)) (δ.set i c.slot) F := by
  cases c with
  | d x => exact S.put_pu h hi
  | r a => exact S.put (M := fun _ => False) ⟨v, rfl, ⟨h, fun _ z => z⟩, fun _ z => z.elim⟩ (fun _ _ _ _ _ z => z.elim) (fun _ z => z.elim) hi
theorem Sd.putCs : ∀ {as : List (Nat × CV)} {us : List V} {σ : L2.St} {δ : List Slot}, Sd K B H σ δ F → CvAll K B us (as.map (·.2)) → (∀ p ∈ as, p.1 < δ.length) → Sd K B H (setV σ (as.map (·.1)) us) (setC δ as) F
  | [], us, σ, δ, S, h, _ => by cases h; exact S
  | p :: ps, us, σ, δ, S, h, hl => by
    cases h with
    | @cons u0 _ ur _ r t =>
      show Sd K B H (setV (σ.set p.1 (some u0)) (ps.map (·.1)) ur) (setC (δ.set p.1 p.2.slot) ps) F
      exact Sd.putCs (S.put_cv r (hl p (List.mem_cons_self ..))) t fun q hq => by rw [List.length_set]; exact hl q (List.mem_cons_of_mem _ hq)
/-- the target g takes what spec tells: the names of as are set -/
def TgC (K : PySem.W.Frag) (g : TG) (spec : Hp → V → Prop) (as : List (Nat × CV)) : Prop := ∀ (B H : Hp) (v : V) (σ : L2.St) (Q : L2.St → Hp → Prop), Ex B H → spec B v → (∀ us, CvAll K B us (as.map (·.2)) → Q (setV σ (as.map (·.1)) us) H) → g v σ H Q
theorem tc_name {j : Nat} {c : CV} : TgC K (gName j) (fun B v => CvOk K B v c) [(j, c)] := fun B H v σ Q e h k => k [v] (.cons h .nil)
theorem tc_two {a b : Nat} {x y : CV} : TgC K (gTup K 2 (gCons (gName a) (gCons (gName b) gNil))) (fun B v => ∃ T u1 u2, v = .ref T ∧ B T = some (.tup [u1, u2]) ∧ CvOk K B u1 x ∧ CvOk K B u2 y) [(a, x), (b, y)] := fun B H v σ Q e ⟨T, u1, u2, ev, hT, h1, h2⟩ k => by
  subst ev
  exact ⟨T, _, rfl, Evl.ex_t e (SqT.of hT), rfl, _, _, rfl, _, _, rfl, rfl, k [_, _] (.cons h1 (.cons h2 .nil))⟩
def TurnG (K : PySem.W.Frag) (g : TG) (t : TS) (d : Dn) (spec : Hp → V → Prop) (nxt : List Slot → Prop) (δ : List Slot) : Prop :=
  ∃ as, TgC K g spec as ∧ (∀ p ∈ as, p.1 < δ.length) ∧ ExS K t { d with nx := nxt, ct := nxt, bk := d.nx } (setC δ as)
theorem for_coreG {n : Nat} {spec : Nat → Hp → V → Prop} {g : TG} {J : It} {D : Ends} (Pv : Nat → List Slot → Prop) (S : Sd K B H σ δ F) (F0 : Addr → Prop) (hF : ∀ a, F0 a → F a) (L : Lift K B H F0 d D) (h0 : Pv 0 δ)
    (hgo : ∀ i, i < n → ∀ B' H' σ' δ', Ex B B' → (∀ a, F a → H' a = H a) → Sd K B' H' σ' δ' F → Pv i δ' → J.go i H' ∧ ∀ x H2, J.yld i H' x H2 → ∃ B2, Gr B' H' B2 H2 ∧ spec i B2 x)
    (hst : ∀ B' H' σ' δ', Ex B B' → (∀ a, F a → H' a = H a) → Sd K B' H' σ' δ' F → Pv n δ' → J.stop n H')
    (hs : ∀ i δ', i < n → Pv i δ' → TurnG K g t d (spec i) (Pv (i + 1)) δ') (hd : ∀ δ', Pv n δ' → d.nx δ') :
    ∃ W : Nat → Nat → L2.St → Hp → Prop, (∃ m, W 0 m σ H) ∧ ∀ i m σ H, W i m σ H →
      (J.stop i H ∧ D.nx σ H) ∨ (J.go i H ∧ ∃ N : L2.St → Hp → Prop, (∀ σ' H', N σ' H' → ∃ m', m' < m ∧ W (i + 1) m' σ' H') ∧ ∀ x H', J.yld i H x H' → g x σ H' fun σ2 H2 => t { D with nx := N, ct := N, bk := D.nx } σ2 H2) := by
  refine ⟨fun i m σ' H' => m = n - i ∧ i ≤ n ∧ ∃ B' δ', Ex B B' ∧ (∀ a, F a → H' a = H a) ∧ Sd K B' H' σ' δ' F ∧ Pv i δ', ⟨n, rfl, Nat.zero_le _, B, δ, Ex.refl _, fun _ _ => rfl, S, h0⟩, ?_⟩
  rintro i m σ' H' ⟨rfl, hi, B', δ', e, f, S', p⟩
  by_cases hlt : i < n
  · obtain ⟨g1, g2⟩ := hgo i hlt B' H' σ' δ' e f S' p
    refine .inr ⟨g1, fun σ2 H2 => ∃ B2 δ2, Ex B B2 ∧ (∀ a, F a → H2 a = H a) ∧ Sd K B2 H2 σ2 δ2 F ∧ Pv (i + 1) δ2, fun σ2 H2 ⟨B2, δ2, q⟩ => ⟨n - (i + 1), by omega, rfl, hlt, B2, δ2, q⟩, fun x H2 hy => ?_⟩
    obtain ⟨B2, gr, hx⟩ := g2 x H2 hy
    obtain ⟨as, hg, hl, hb⟩ := hs i δ' hlt p
    have S2 := S'.grow gr
    have f2 : ∀ a, F a → H2 a = H a := fun a z => (ex_eq gr.h (S'.fl a z)).trans (f a z)
    refine hg B2 H2 x σ' _ S2.bh hx fun us hu => ?_
    refine hb B2 H2 _ F _ (S2.putCs hu hl) ⟨fun B3 H3 σ3 δ3 e3 f3 S3 q => ⟨B3, δ3, (e.trans gr.b).trans e3, fun a z => (f3 a z).trans (f2 a z), S3, q⟩, fun B3 H3 σ3 δ3 e3 f3 S3 q => ?_,
      fun B3 H3 σ3 δ3 e3 f3 S3 q => ⟨B3, δ3, (e.trans gr.b).trans e3, fun a z => (f3 a z).trans (f2 a z), S3, q⟩, fun v M s B3 H3 σ3 δ3 e3 f3 S3 w n q => ?_⟩
    · exact L.nx B3 H3 σ3 δ3 ((e.trans gr.b).trans e3) (fun a z => (f3 a (hF a z)).trans (f2 a (hF a z))) (S3.less hF) q
    · exact L.rt v M s B3 H3 σ3 δ3 ((e.trans gr.b).trans e3) (fun a z => (f3 a (hF a z)).trans (f2 a (hF a z))) (S3.less fun a z => z.elim (fun z => .inl (hF a z)) .inr) w (fun a z z2 => n a z (hF a z2)) q
  · have e1 : i = n := by omega
    subst e1
    exact .inl ⟨hst B' H' σ' δ' e f S' p, L.nx B' H' σ' δ' e (fun a z => f a (hF a z)) (S'.less hF) (hd δ' p)⟩
/-- for x in a list that is shown, what is owned may change meanwhile -/
theorem xs_forS {g : TG} (h : EvS K te δ fun s δ1 => ∃ (b : Addr) (ds : List PyData), s = .ow (RRef b) ∧ ∃ Pv : Nat → List Slot → Prop, (∀ i δ', Pv i δ' → ∃ (j : Nat) (R : Res), δ'[j]? = some (.ow R) ∧ Shows K R b ds) ∧ Pv 0 δ1 ∧ (∀ (i : Nat) y δ', ds[i]? = some y → Pv i δ' → Turn1 K g t d y (Pv (i + 1)) δ') ∧ ∀ δ', Pv ds.length δ' → d.nx δ') : ExS K (tFor (iList K te) g t) d δ := fun B H σ F D S L =>
  h B H σ F _ S fun v M s B2 H2 δ1 e f S2 wk n ⟨b, ds, es, Pv, hsh, h0, hs, hn⟩ => by
    subst es
    obtain ⟨rfl, hM⟩ := wk
    have S2' : Sd K B2 H2 σ δ1 F := S2.less fun a z => .inl z
    have look : ∀ i B' H' σ' δ', Sd K B' H' σ' δ' F → Pv i δ' → ∃ xs, SqL K H' b xs ∧ DpAll K B' xs ds := fun i B' H' σ' δ' S' p => by
      obtain ⟨j, R, hj, sh⟩ := hsh i δ' p
      obtain ⟨v', M', ev, hP, _⟩ := S'.opn hj
      obtain ⟨xs, h1, h2⟩ := sh _ _ _ _ hP
      exact ⟨xs, SqL.of h1, h2⟩
    obtain ⟨xs0, hx0, _⟩ := look 0 _ _ _ _ S2' h0
    refine ⟨b, rfl, ⟨xs0, hx0⟩, ?_⟩
    refine for_core (n := ds.length) (item := fun i => ds.getD i .none) Pv S2' F (fun a z => z) (L.step e f) h0 (fun i hi B' H' σ' δ' e' f' S' p' => ?_) (fun B' H' σ' δ' e' f' S' p' => ?_) (fun i δ' hi q => hs i _ δ' (by rw [List.getD_eq_getElem?_getD, List.getElem?_eq_getElem hi]; rfl) q) hn
    · obtain ⟨xs, hq', ha⟩ := look i _ _ _ _ S' p'
      obtain ⟨w, hw, hdw⟩ := dpa_get ha (List.getElem?_eq_getElem hi)
      refine ⟨⟨xs, w, hq', hw⟩, fun y H3 hy => ?_⟩
      obtain ⟨e1, e2⟩ := hy
      subst e1
      refine ⟨B', Gr.refl S'.bh, ?_⟩
      have e3 := (e2 xs hq').symm.trans hw
      cases e3
      rw [List.getD_eq_getElem?_getD, List.getElem?_eq_getElem hi]
      exact hdw
    · obtain ⟨xs, hq', ha⟩ := look _ _ _ _ _ S' p'
      exact ⟨xs, hq', Nat.le_of_eq (dpa_len ha)⟩
/-- for x in a list of references that is shown -/
theorem xs_forRf {g : TG} (h : EvS K te δ fun s δ1 => ∃ (b : Addr) (as : List Addr), s = .ow (RRef b) ∧ ∃ Pv : Nat → List Slot → Prop, (∀ i δ', Pv i δ' → ∃ (j : Nat) (R : Res), δ'[j]? = some (.ow R) ∧ ShowsR R b as) ∧ Pv 0 δ1 ∧ (∀ (i : Nat) a δ', as[i]? = some a → Pv i δ' → TurnG K g t d (fun _ v => v = .ref a) (Pv (i + 1)) δ') ∧ ∀ δ', Pv as.length δ' → d.nx δ') : ExS K (tFor (iList K te) g t) d δ := fun B H σ F D S L =>
  h B H σ F _ S fun v M s B2 H2 δ1 e f S2 wk n ⟨b, as, es, Pv, hsh, h0, hs, hn⟩ => by
    subst es
    obtain ⟨rfl, hM⟩ := wk
    have S2' : Sd K B2 H2 σ δ1 F := S2.less fun a z => .inl z
    have look : ∀ i B' H' σ' δ', Sd K B' H' σ' δ' F → Pv i δ' → SqL K H' b (as.map V.ref) := fun i B' H' σ' δ' S' p => by
      obtain ⟨j, R, hj, sh⟩ := hsh i δ' p
      obtain ⟨v', M', ev, hP, _⟩ := S'.opn hj
      exact SqL.of (sh _ _ _ _ hP)
    refine ⟨b, rfl, ⟨_, look 0 _ _ _ _ S2' h0⟩, ?_⟩
    refine for_coreG (n := as.length) (spec := fun i _ v => v = .ref (as.getD i 0)) Pv S2' F (fun a z => z) (L.step e f) h0 (fun i hi B' H' σ' δ' e' f' S' p' => ?_) (fun B' H' σ' δ' e' f' S' p' => ?_) (fun i δ' hi q => hs i _ δ' (by rw [List.getD_eq_getElem?_getD, List.getElem?_eq_getElem hi]; rfl) q) hn
    · have hq' := look i _ _ _ _ S' p'
      have hw : (as.map V.ref)[i]? = some (.ref (as.getD i 0)) := by rw [List.getElem?_map, List.getD_eq_getElem?_getD, List.getElem?_eq_getElem hi]; rfl
      refine ⟨⟨_, _, hq', hw⟩, fun y H3 hy => ?_⟩
      obtain ⟨e1, e2⟩ := hy
      subst e1
      refine ⟨B', Gr.refl S'.bh, ?_⟩
      have e3 := (e2 _ hq').symm.trans hw
      exact Option.some.inj e3
    · exact ⟨_, look _ _ _ _ _ S' p', by rw [List.length_map]; exact Nat.le_refl _⟩
/-- for i, x in enumerate(a list of references that is shown) -/
theorem xs_forRE {a b : Nat} (h : EvS K te δ fun s δ1 => ∃ (r : Addr) (as : List Addr), s = .ow (RRef r) ∧ ∃ Pv : Nat → List Slot → Prop, (∀ i δ', Pv i δ' → ∃ (j : Nat) (R : Res), δ'[j]? = some (.ow R) ∧ ShowsR R r as) ∧ Pv 0 δ1 ∧ (∀ (i : Nat) x δ', as[i]? = some x → Pv i δ' → a < δ'.length ∧ b < δ'.length ∧ ExS K t { d with nx := Pv (i + 1), ct := Pv (i + 1), bk := d.nx } ((δ'.set a (.pu (.int (i : Int)))).set b (.ow (RRef x)))) ∧ ∀ δ', Pv as.length δ' → d.nx δ') : ExS K (tFor (iEnum K (tCons te tNil)) (gTup K 2 (gCons (gName a) (gCons (gName b) gNil))) t) d δ := fun B H σ F D S L =>
  h B H σ F _ S fun v M s B2 H2 δ1 e f S2 wk n ⟨r, as, es, Pv, hsh, h0, hs, hn⟩ => by
    subst es
    obtain ⟨rfl, hM⟩ := wk
    have S2' : Sd K B2 H2 σ δ1 F := S2.less fun a z => .inl z
    have look : ∀ i B' H' σ' δ', Sd K B' H' σ' δ' F → Pv i δ' → SqL K H' r (as.map V.ref) := fun i B' H' σ' δ' S' p => by
      obtain ⟨j, R, hj, sh⟩ := hsh i δ' p
      obtain ⟨v', M', ev, hP, _⟩ := S'.opn hj
      exact SqL.of (sh _ _ _ _ hP)
    refine ⟨r, _, rfl, look 0 _ _ _ _ S2' h0, ?_⟩
    refine for_coreG (n := as.length) (spec := fun i B v => ∃ T u1 u2, v = .ref T ∧ B T = some (.tup [u1, u2]) ∧ CvOk K B u1 (.d (.int (i : Int))) ∧ CvOk K B u2 (.r (as.getD i 0))) Pv S2' F (fun a z => z) (L.step e f) h0 (fun i hi B' H' σ' δ' e' f' S' p' => ?_) (fun B' H' σ' δ' e' f' S' p' => ?_) (fun i δ' hi q => ?_) hn
    · have hq' := look i _ _ _ _ S' p'
      have hw : (as.map V.ref)[i]? = some (.ref (as.getD i 0)) := by rw [List.getElem?_map, List.getD_eq_getElem?_getD, List.getElem?_eq_getElem hi]; rfl
      refine ⟨⟨_, _, hq', hw⟩, fun y H3 hy => ?_⟩
      obtain ⟨T, x', e1, hT, e2, e3⟩ := hy
      subst e1 e2
      have e4 := (e3 _ hq').symm.trans hw
      cases e4
      have gr := Gr.new (o := .tup [.int (i : Nat), .ref (as.getD i 0)]) S'.bh hT
      exact ⟨_, gr, T, _, _, rfl, upd_same, .int _, rfl⟩
    · exact ⟨_, look _ _ _ _ _ S' p', by rw [List.length_map]; exact Nat.le_refl _⟩
    · obtain ⟨h1, h2, h3⟩ := hs i (as.getD i 0) δ' (by rw [List.getD_eq_getElem?_getD, List.getElem?_eq_getElem hi]; rfl) q
      exact ⟨[(a, .d (.int (i : Int))), (b, .r (as.getD i 0))], tc_two, fun p hp => by
        rcases List.mem_cons.mp hp with rfl | hp
        · exact h1
        · rw [List.mem_singleton.mp hp]; exact h2, h3⟩
theorem turnG_name {j : Nat} {a : Addr} {nxt : List Slot → Prop} (hj : j < δ.length) (h : ExS K t { d with nx := nxt, ct := nxt, bk := d.nx } (δ.set j (.ow (RRef a)))) : TurnG K (gName j) t d (fun _ v => v = .ref a) nxt δ :=
  ⟨[(j, .r a)], fun B H v σ Q e h k => k [v] (.cons h .nil), fun p hp => by rw [List.mem_singleton.mp hp]; exact hj, h⟩
end
end Dl

/-! Dl15: defs and methods whose first argument is owned and may change; making of instances. -/
namespace Dl
open PySem PySem.Spec PyProof.Rows L2
open Evl (Ex)
/-- a def or method whose first argument is owned: R i ahead, R i' behind -/
def spM (K : PySem.W.Frag) {I : Type} (adr : I → Addr) (R : I → Res) (n : Nat) (pre : I → List PyData → Prop) (T : I → List PyData → I → Slot → Prop) : Sp := fun vs H Q _ =>
  ∃ (B : Hp) (i : I) (M : Addr → Prop) (rest : List V) (ds : List PyData), vs = .ref (adr i) :: rest ∧ Ex B H ∧ (R i).P (.ref (adr i)) B H M ∧ (∀ a, M a → B a = none) ∧ DpAll K B rest ds ∧ ds.length = n ∧ pre i ds ∧
    ∀ (w : V) (B2 H2 : Hp) (i' : I) (M2 : Addr → Prop) (s : Slot) (Ms : Addr → Prop), Ex B B2 → Ex B2 H2 → (∀ a o, H a = some o → ¬ M a → H2 a = some o) → (∀ a o, B2 a = some o → B a = some o ∨ H a = none ∨ M a) → adr i' = adr i → (R i').P (.ref (adr i)) B2 H2 M2 →
      (∀ a, M2 a → (M a ∨ H a = none) ∧ B2 a = none) → VOk K [] [] B2 H2 w Ms s → (∀ a, Ms a → (M a ∨ H a = none) ∧ B2 a = none ∧ ¬ M2 a) → T i ds i' s → Q w H2
theorem spM_len {K : PySem.W.Frag} {I : Type} {adr : I → Addr} {R : I → Res} {n : Nat} {pre : I → List PyData → Prop} {T : I → List PyData → I → Slot → Prop} {vs : List V} {H : Hp} {Q : VK} {E : XK} (h : spM K adr R n pre T vs H Q E) : vs.length = n + 1 := by
  obtain ⟨B, i, M, rest, ds, rfl, _, _, _, ha, hn, _⟩ := h
  rw [List.length_cons, dpa_len ha, hn]
/-- a part of what is owned, and how the whole is with another part in its place -/
def Foc {I : Type} (adr : I → Addr) (Rf R : I → Res) (i : I) : Prop := ∀ v B H M, (Rf i).P v B H M → ∃ M1, (R i).P (.ref (adr i)) B H M1 ∧ (∀ c, M1 c → M c) ∧
  ∀ (i' : I) (B2 H2 : Hp) (M1' : Addr → Prop), adr i' = adr i → Ex B B2 → (∀ c, M c → ¬ M1 c → H2 c = H c) → (R i').P (.ref (adr i)) B2 H2 M1' → (∀ c, M1' c → M1 c ∨ H c = none) → (Rf i').P v B2 H2 (fun c => (M c ∧ ¬ M1 c) ∨ M1' c)
theorem foc_self {I : Type} {adr : I → Addr} {R : I → Res} {i : I} (hat : ∀ i v B H M, (R i).P v B H M → v = .ref (adr i)) : Foc adr R R i := fun v B H M h => by
  have e := hat i v B H M h
  subst e
  refine ⟨M, h, fun _ z => z, fun i' B2 H2 M1' ea e1 k h' hm => ?_⟩
  have e2 : (fun c => (M c ∧ ¬ M c) ∨ M1' c) = M1' := funext fun c => propext ⟨fun z => z.elim (fun z => absurd z.1 z.2) id, .inr⟩
  rw [e2]
  exact h'
theorem VOk.any {K : PySem.W.Frag} {σ : L2.St} {δ : List Slot} {B H : Hp} {v : V} {M : Addr → Prop} {s : Slot} (h : VOk K [] [] B H v M s) : VOk K σ δ B H v M s := by
  cases s with
  | non => exact h
  | pu d => exact h
  | ow R => exact h
  | al i => cases h.1
theorem VOk.lives {K : PySem.W.Frag} {B H : Hp} {v : V} {M : Addr → Prop} {s : Slot} (h : VOk K [] [] B H v M s) (a : Addr) (ha : M a) : H a ≠ none := by
  cases s with
  | non => exact h.elim
  | pu d => exact absurd ha (h.2 a)
  | ow R => exact R.live h a ha
  | al i => cases h.1
section
variable {K : PySem.W.Frag} {w : World} {δ : List Slot} {te ta tb tc : TE} {tr : TA} {tt : TT} {t u : TS} {d : Dn} {Φ : Slot → List Slot → Prop} {B H : Hp} {σ : L2.St} {F : Addr → Prop} {I : Type} {adr : I → Addr} {R : I → Res} {n : Nat} {pre : I → List PyData → Prop} {T : I → List PyData → I → Slot → Prop} {E : XK}
theorem spM_call {j : Nat} {i : I} {rest : List V} {ds : List PyData} {Q : VK} (Rf : I → Res) (S : Sd K B H σ δ F) (hj : δ[j]? = some (.ow (Rf i))) (foc : Foc adr Rf R i) (ha : DpAll K B rest ds) (hn : ds.length = n) (hp : pre i ds)
    (k : ∀ (w : V) (i' : I) (s : Slot) (Ms : Addr → Prop) (B2 H2 : Hp), adr i' = adr i → Ex B B2 → (∀ a, F a → H2 a = H a) → Sd K B2 H2 σ (δ.set j (.ow (Rf i'))) (fun a => F a ∨ Ms a) → VOk K [] [] B2 H2 w Ms s → (∀ a, Ms a → ¬ F a) → T i ds i' s → Q w H2) : spM K adr R n pre T (.ref (adr i) :: rest) H Q E := by
  obtain ⟨v, M, ev, hP, hb, hF, op⟩ := (S.less (F := fun a => F a ∨ False) fun a z => z.elim id False.elim).chg (fun a z => z.elim) hj
  obtain ⟨M1, hP1, sub, back⟩ := foc _ _ _ _ hP
  refine ⟨B, i, M1, rest, ds, rfl, S.bh, hP1, fun a z => hb a (sub a z), ha, hn, hp, fun w B2 H2 i' M2 s Ms e1 e2 k1 k2 ea hP2 hM2 hw hMs hT => ?_⟩
  have keep : ∀ c, H c ≠ none → ¬ M1 c → H2 c = H c := fun c hc hn => by
    obtain ⟨o, ho⟩ := some_of_ne hc
    rw [ho]
    exact k1 c o ho hn
  have P' := back i' B2 H2 M2 ea e1 (fun c hc hnc => keep c ((Rf i).live hP c hc) hnc) hP2 (fun c hc => (hM2 c hc).1)
  have b2n : ∀ c, M c → ¬ M1 c → B2 c = none := fun c hc hn => by
    cases q : B2 c with
    | none => rfl
    | some o =>
      rcases k2 c o q with z | z | z
      · rw [hb c hc] at z; cases z
      · exact absurd z ((Rf i).live hP c hc)
      · exact absurd z hn
  have S' := op B2 H2 (some v) (.ow (Rf i')) (fun c => (M c ∧ ¬ M1 c) ∨ M2 c) Ms e1 e2 (fun a o ho hn _ => k1 a o ho fun z => hn (sub a z)) (fun a o ho => (k2 a o ho).imp id fun z => z.imp id fun z => .inl (sub a z)) ⟨v, rfl, P', fun a z => z.elim (fun z => b2n a z.1 z.2) fun z => (hM2 a z).2⟩
    (fun a z => z.elim (fun z => .inl z.1) fun z => (hM2 a z).1.elim (fun z => .inl (sub a z)) fun z => .inr (.inr z))
    (fun a z => ⟨(hMs a z).1.elim (fun z => .inl (sub a z)) fun z => .inr (.inr z), (hMs a z).2.1, hw.lives a z, fun y => y.elim (fun y => (hMs a z).1.elim (fun x => y.2 x) fun x => (Rf i).live hP a y.1 x) (hMs a z).2.2⟩)
  rw [set_self ev] at S'
  refine k w i' s Ms B2 H2 ea e1 (fun a z => keep a (S.fl a z) fun m => (hF a (sub a m)).1 z) S' hw (fun a z f => ?_) hT
  rcases (hMs a z).1 with y | y
  · exact (hF a (sub a y)).1 f
  · exact S.fl a f y
/-- o.m(..), o a name that owns -/
theorem ev_methW {C : Addr} {m : Str} {j : Nat} (hat : ∀ i v B H M, (R i).P v B H M → v = .ref (adr i) ∧ ∃ dx fs, H (adr i) = some (.ins C dx fs) ∧ fs.lookup m = none)
    (h : ∃ i, δ[j]? = some (.ow (R i)) ∧ EvDs K tr δ fun ds δ1 => ∃ i, δ1[j]? = some (.ow (R i)) ∧ ds.length = n ∧ pre i ds ∧ ∀ i' s, adr i' = adr i → T i ds i' s → Φ s (δ1.set j (.ow (R i')))) : EvS K (tMeth C m (spM K adr R n pre T) [] E (tVar j) tr) δ Φ := fun B H σ F Q S k => by
  obtain ⟨i0, h0, h⟩ := h
  obtain ⟨v, M, ev, hP, _⟩ := S.opn h0
  obtain ⟨rfl, dx, fs, hi, hl⟩ := hat _ _ _ _ _ hP
  refine ⟨_, ev, adr i0, dx, fs, rfl, hi, hl, h B H σ F _ S fun vs ds B2 H2 δ1 e f S2 ha ⟨i, hj, hn, hp, q⟩ => ?_⟩
  obtain ⟨v', M', ev', hP', _⟩ := S2.opn hj
  obtain ⟨rfl, _⟩ := hat _ _ _ _ _ hP'
  rw [ev] at ev'
  have ea : adr i0 = adr i := V.ref.inj (Option.some.inj (Option.some.inj ev'))
  rw [List.append_nil, ea]
  exact spM_call R S2 hj (foc_self fun i v B H M h => (hat i v B H M h).1) ha hn hp fun w i' s Ms B3 H3 ea' e3 f3 S3 hw hF hT => k w Ms s B3 H3 _ (e.trans e3) (fun a z => (f3 a z).trans (f a z)) S3 hw.any hF (q i' s ea' hT)
/-- f(o, ..), o a name that owns -/
theorem ev_callM {j : Nat} (hat : ∀ i v B H M, (R i).P v B H M → v = .ref (adr i)) (h : ∃ i, δ[j]? = some (.ow (R i)) ∧ EvDs K tr δ fun ds δ1 => ∃ i, δ1[j]? = some (.ow (R i)) ∧ ds.length = n ∧ pre i ds ∧ ∀ i' s, adr i' = adr i → T i ds i' s → Φ s (δ1.set j (.ow (R i')))) : EvS K (tCall (spM K adr R n pre T) [] E (tCons (tVar j) tr)) δ Φ := fun B H σ F Q S k => by
  obtain ⟨i0, h0, h⟩ := h
  obtain ⟨v, M, ev, hP, _⟩ := S.opn h0
  obtain rfl := hat _ _ _ _ _ hP
  refine ⟨_, ev, h B H σ F _ S fun vs ds B2 H2 δ1 e f S2 ha ⟨i, hj, hn, hp, q⟩ => ?_⟩
  obtain ⟨v', M', ev', hP', _⟩ := S2.opn hj
  obtain rfl := hat _ _ _ _ _ hP'
  rw [ev] at ev'
  have ea : adr i0 = adr i := V.ref.inj (Option.some.inj (Option.some.inj ev'))
  show spM K adr R n pre T (.ref (adr i0) :: vs ++ []) H2 Q E
  rw [List.append_nil, ea]
  exact spM_call R S2 hj (foc_self hat) ha hn hp fun w i' s Ms B3 H3 ea' e3 f3 S3 hw hF hT => k w Ms s B3 H3 _ (e.trans e3) (fun a z => (f3 a z).trans (f a z)) S3 hw.any hF (q i' s ea' hT)
/-- the instance at a, of the class at C, that R owns -/
def InsAt (R : Res) (a C : Addr) (m : Str) : Prop := ∀ v B H M, R.P v B H M → ∃ dx fs, H a = some (.ins C dx fs) ∧ fs.lookup m = none
/-- o.m(..), o a reference into what is owned -/
theorem ev_methR {C : Addr} {m : Str} (h : EvS K ta δ fun s δ1 => ∃ (a : Addr) (j0 : Nat) (Rj : Res), s = .ow (RRef a) ∧ δ1[j0]? = some (.ow Rj) ∧ InsAt Rj a C m ∧ EvDs K tr δ1 fun ds δ2 => ∃ (j : Nat) (Rf : I → Res) (i : I), adr i = a ∧ δ2[j]? = some (.ow (Rf i)) ∧ Foc adr Rf R i ∧ ds.length = n ∧ pre i ds ∧ ∀ i' s', adr i' = adr i → T i ds i' s' → Φ s' (δ2.set j (.ow (Rf i')))) : EvS K (tMeth C m (spM K adr R n pre T) [] E ta tr) δ Φ := fun B H σ F Q S k =>
  h B H σ F _ S fun v M s B1 H1 δ1 e1 f1 S1 wk nF ⟨a, j0, Rj, es, h0, hi, p⟩ => by
    subst es
    obtain ⟨rfl, hM⟩ := wk
    have S1' : Sd K B1 H1 σ δ1 F := S1.less fun a z => .inl z
    obtain ⟨v0, M0, ev0, hP0, _⟩ := S1'.opn h0
    obtain ⟨dx, fs, g1, g2⟩ := hi _ _ _ _ hP0
    refine ⟨a, dx, fs, rfl, g1, g2, p B1 H1 σ F _ S1' fun vs ds B2 H2 δ2 e f S2 ha ⟨j, Rf, i, ea, hj, foc, hn, hp, q⟩ => ?_⟩
    subst ea
    rw [List.append_nil]
    exact spM_call Rf S2 hj foc ha hn hp fun w i' s Ms B3 H3 ea' e3 f3 S3 hw hF hT => k w Ms s B3 H3 _ ((e1.trans e).trans e3) (fun a z => (f3 a z).trans ((f a z).trans (f1 a z))) S3 hw.any hF (q i' s ea' hT)
/-- f(o, ..), o a reference into what is owned -/
theorem ev_callMR (h : EvS K ta δ fun s δ1 => ∃ a : Addr, s = .ow (RRef a) ∧ EvDs K tr δ1 fun ds δ2 => ∃ (j : Nat) (Rf : I → Res) (i : I), adr i = a ∧ δ2[j]? = some (.ow (Rf i)) ∧ Foc adr Rf R i ∧ ds.length = n ∧ pre i ds ∧ ∀ i' s', adr i' = adr i → T i ds i' s' → Φ s' (δ2.set j (.ow (Rf i')))) : EvS K (tCall (spM K adr R n pre T) [] E (tCons ta tr)) δ Φ := fun B H σ F Q S k =>
  h B H σ F _ S fun v M s B1 H1 δ1 e1 f1 S1 wk nF ⟨a, es, p⟩ => by
    subst es
    obtain ⟨rfl, hM⟩ := wk
    have S1' : Sd K B1 H1 σ δ1 F := S1.less fun a z => .inl z
    refine p B1 H1 σ F _ S1' fun vs ds B2 H2 δ2 e f S2 ha ⟨j, Rf, i, ea, hj, foc, hn, hp, q⟩ => ?_
    subst ea
    show spM K adr R n pre T (.ref (adr i) :: vs ++ []) H2 Q E
    rw [List.append_nil]
    exact spM_call Rf S2 hj foc ha hn hp fun w i' s Ms B3 H3 ea' e3 f3 S3 hw hF hT => k w Ms s B3 H3 _ ((e1.trans e).trans e3) (fun a z => (f3 a z).trans ((f a z).trans (f1 a z))) S3 hw.any hF (q i' s ea' hT)
/-- C(..) -/
theorem ev_make {C : Addr} (h : EvDs K tr δ fun ds δ1 => ds.length = n ∧ ∀ x, ∃ i, adr i = x ∧ (∀ B H dx, H x = some (.ins C dx []) → (R i).P (.ref x) B H (fun c => c = x)) ∧ pre i ds ∧ ∀ i' s, adr i' = adr i → T i ds i' s → s = .pu .none ∧ Φ (.ow (R i')) δ1) : EvS K (tMake C (spM K adr R n pre T) [] E tr) δ Φ := fun B H σ F Q S k =>
  h B H σ F _ S fun vs ds B2 H2 δ1 e f S2 ha ⟨hn, p⟩ => by
    intro x dx hx hdx hne
    obtain ⟨i, rfl, hi, hp, q⟩ := p x
    rw [List.append_nil]
    have ndx : ∀ a o, H2 a = some o → a ≠ dx := fun a o ho e => by rw [e, hdx] at ho; cases ho
    have nx : ∀ a o, H2 a = some o → a ≠ adr i := fun a o ho e => by rw [e, hx] at ho; cases ho
    have ex : Ex H2 (upd (upd H2 dx (.own (adr i))) (adr i) (.ins C dx [])) := fun a o ho => by
      rw [upd_ne (nx a o ho), upd_ne (ndx a o ho)]
      exact ho
    refine ⟨B2, i, fun c => c = adr i, vs, ds, rfl, S2.bh.trans ex, hi _ _ dx upd_same, fun a z => by rw [z]; exact exnone S2.bh hx, ha, hn, hp, fun w B3 H3 i' M2 s Ms e1 e2 k1 k2 ea hP2 hM2 hw hMs hT => ?_⟩
    obtain ⟨es, hq⟩ := q i' s ea hT
    subst es
    refine ⟨dp_non_inv hw.1, ?_⟩
    have keep : ∀ a o, H2 a = some o → H3 a = some o := fun a o ho => k1 a o (ex a o ho) (nx a o ho)
    have gr : Gr B2 H2 B3 H3 := by
      refine ⟨e1, keep, e2, fun a o ho => ?_⟩
      rcases k2 a o ho with z | z | z
      · exact .inl z
      · cases q2 : H2 a with
        | none => exact .inr rfl
        | some u => rw [ex a u q2] at z; cases z
      · rw [show a = adr i from z]; exact .inr hx
    have S3 := S2.grow gr
    have fr : ∀ a, M2 a → H2 a = none := fun a ha => by
      rcases (hM2 a ha).1 with z | z
      · rw [show a = adr i from z]; exact hx
      · cases q2 : H2 a with
        | none => rfl
        | some u => rw [ex a u q2] at z; cases z
    have S4 : Sd K B3 H3 σ δ1 (fun a => F a ∨ M2 a) := by
      obtain ⟨ms, h1, h2, h3, h4⟩ := S2.sl
      refine ⟨S3.bh, S3.len, fun a z => z.elim (S3.fb a) fun z => (hM2 a z).2, fun a z => z.elim (S3.fl a) fun z => (R i').live hP2 a z, ms, fun j s hs => (h1 j s hs).grow gr, h2, fun j a q z => ?_, h4⟩
      rcases z with z | z
      · exact h3 j a q z
      · have hl := h4 j a q
        have q2 := h1 j δ1[j] (List.getElem?_eq_getElem hl)
        have hn2 := fr a z
        cases e5 : δ1[j] with
        | non => rw [e5] at q2; exact q2 a q
        | pu d => rw [e5] at q2; obtain ⟨_, _, _, z⟩ := q2; exact z a q
        | ow R => rw [e5] at q2; obtain ⟨_, _, hP, _⟩ := q2; exact R.live hP a q hn2
        | al j => rw [e5] at q2; exact q2
    exact k _ M2 (.ow (R i')) B3 H3 δ1 (e.trans e1) (fun a z => by rw [ex_eq gr.h (S2.fl a z), f a z]) S4 hP2 (fun a z z2 => S2.fl a z2 (fr a z)) hq
/-! ### bodies -/
def RtG (T : Slot → Prop) (s : Slot) (δ : List Slot) : Prop := (∃ z, s = .pu z ∧ T s) ∨ (∃ R, s = .ow R ∧ T s) ∨ ∃ k R, s = .al k ∧ k ≠ 0 ∧ δ[k]? = some (.ow R) ∧ T (.ow R)
/-- what the body's first slot holds at the end -/
def EndR (adr : I → Addr) (R : I → Res) (i i' : I) (R2 : Res) : Prop := adr i' = adr i ∧ ∀ v B H M, R2.P v B H M → v = .ref (adr i) ∧ (R i').P v B H M
abbrev DnM (adr : I → Addr) (R : I → Res) (T : I → List PyData → I → Slot → Prop) (i : I) (ds : List PyData) : Dn := { nx := fun δ2 => ∃ i' R2, δ2[0]? = some (.ow R2) ∧ EndR adr R i i' R2 ∧ T i ds i' (.pu .none), rt := fun s δ2 => ∃ i' R2, δ2[0]? = some (.ow R2) ∧ EndR adr R i i' R2 ∧ RtG (T i ds i') s δ2 }
theorem body_M {N : List Str} {vs : List V} {Q : VK} (h : spM K adr R n pre T vs H Q E)
    (hx : ∀ i ds, ds.length = n → pre i ds → ExS K t (DnM adr R T i ds) (.ow (R i) :: (ds.map Slot.pu ++ List.replicate (N.length - (ds.length + 1)) Slot.non))) : t { nx := fun _ H' => Q .non H', rt := Q } (L2.start N vs) H := by
  obtain ⟨B, i, M, rest, ds, rfl, eB, hP, hMb, ha, hn, hp, q⟩ := h
  have hl := dpa_len ha
  let F : Addr → Prop := fun a => H a ≠ none ∧ B a = none ∧ ¬ M a
  have est : L2.start N (.ref (adr i) :: rest) = some (.ref (adr i)) :: (rest.map some ++ List.replicate (N.length - (rest.length + 1)) none) := by
    unfold L2.start
    rw [List.map_cons, List.length_cons, List.cons_append]
  have S0 : Sd K B H (L2.start N (.ref (adr i) :: rest)) (.ow (R i) :: (ds.map Slot.pu ++ List.replicate (N.length - (ds.length + 1)) Slot.non)) F := by
    rw [est]
    refine ⟨eB, by simp [hl], fun a z => z.2.1, fun a z => z.1, fun k a => k = 0 ∧ M a, fun k s hs => ?_, fun k j a z1 z2 => by rw [z1.1, z2.1], fun k a z f => f.2.2 z.2, fun k a z => by rw [z.1]; exact Nat.zero_lt_succ _⟩
    cases k with
    | zero =>
      rw [List.getElem?_cons_zero] at hs
      cases hs
      have eM : (fun a => 0 = 0 ∧ M a) = M := funext fun a => propext ⟨fun z => z.2, fun z => ⟨rfl, z⟩⟩
      exact ⟨.ref (adr i), rfl, by show (R i).P _ B H (fun a => 0 = 0 ∧ M a); rw [eM]; exact hP, fun a z => hMb a z.2⟩
    | succ k =>
      rw [List.getElem?_cons_succ] at hs
      by_cases hlt : k < ds.length
      · rw [List.getElem?_append_left (by rw [List.length_map]; exact hlt), List.getElem?_map] at hs
        cases hdi : ds[k]? with
        | none => rw [hdi] at hs; cases hs
        | some x =>
          rw [hdi] at hs
          cases hs
          obtain ⟨v, hv, hxx⟩ := dpa_get ha hdi
          rw [List.getElem?_cons_succ, List.getElem?_append_left (by rw [List.length_map, hl]; exact hlt), List.getElem?_map, hv]
          exact ⟨v, rfl, hxx, fun _ z => nomatch z.1⟩
      · rw [List.getElem?_append_right (by rw [List.length_map]; omega)] at hs
        rw [List.eq_of_mem_replicate (List.mem_of_getElem? hs)]
        exact fun _ z => nomatch z.1
  -- what holds at every end
  have old : ∀ (B2 : Hp) (a : Addr), Ex B B2 → B2 a = none → ¬ F a → M a ∨ H a = none := fun B2 a e hb nf => by
    cases hh : H a with
    | none => exact .inr rfl
    | some u => exact .inl (Classical.byContradiction fun hm => nf ⟨nn_of hh, exnone e hb, hm⟩)
  have fin : ∀ (B2 H2 : Hp) (σ2 : L2.St) (δ2 : List Slot) (F' : Addr → Prop) (R2 : Res) (i' : I) (w : V) (s : Slot) (Ms : Addr → Prop) (ms : Nat → Addr → Prop), Ex B B2 → (∀ a, F a → H2 a = H a) → Sd K B2 H2 σ2 δ2 F' → (∀ a, F a → F' a) → (∀ i s, δ2[i]? = some s → SlotIn K B2 H2 σ2[i]? (ms i) s) → (∀ i a, ms i a → ¬ F' a) → δ2[0]? = some (.ow R2) → EndR adr R i i' R2 → VOk K [] [] B2 H2 w Ms s → (∀ a, Ms a → (M a ∨ H a = none) ∧ B2 a = none ∧ ¬ ms 0 a) → T i ds i' s → Q w H2 := fun B2 H2 σ2 δ2 F' R2 i' w s Ms ms e f S hF' h1 h3 h0 ⟨ea, hR⟩ hw hMs hT => by
    obtain ⟨v, ev, hP2, hb2⟩ := h1 0 _ h0
    obtain ⟨rfl, hPi⟩ := hR _ _ _ _ hP2
    refine q w B2 H2 i' (ms 0) s Ms e S.bh (fun a o ho hm => ?_) (fun a o ho => ?_) ea hPi (fun a z => ⟨old B2 a e (hb2 a z) (fun fz => h3 0 a z (hF' a fz)), hb2 a z⟩) hw hMs hT
    · cases hba : B a with
      | none => rw [f a ⟨nn_of ho, hba, hm⟩]; exact ho
      | some o' =>
        have e1 := eB a o' hba
        rw [ho] at e1
        cases e1
        exact S.bh a o (e a o hba)
    · cases hba : B a with
      | some o' => exact .inl (by rw [e a o' hba] at ho; exact ho)
      | none =>
        cases hh : H a with
        | none => exact .inr (.inl rfl)
        | some u =>
          refine .inr (.inr (Classical.byContradiction fun hm => ?_))
          rw [S.fb a (hF' a ⟨nn_of hh, hba, hm⟩)] at ho
          cases ho
  refine hx i ds hn hp B H _ F _ S0 ⟨fun B2 H2 σ2 δ2 e f S ⟨i', R2, p0, p1, p⟩ => ?_, fun _ _ _ _ _ _ _ z => z.elim, fun _ _ _ _ _ _ _ z => z.elim, fun v Mv s B2 H2 σ2 δ2 e f S w nF ⟨i', R2, p0, p1, p⟩ => ?_⟩
  · obtain ⟨ms, h1, h2, h3, h4⟩ := S.sl
    exact fin B2 H2 σ2 δ2 F R2 i' .non (.pu .none) (fun _ => False) ms e f S (fun _ z => z) h1 h3 p0 p1 ⟨.non, fun _ z => z⟩ (fun _ z => z.elim) p
  · obtain ⟨ms, h1, h2, h3, h4⟩ := S.sl
    rcases p with ⟨z, rfl, hT⟩ | ⟨R', rfl, hT⟩ | ⟨k, R', rfl, hk, hkk, hT⟩
    · exact fin B2 H2 σ2 δ2 _ R2 i' v (.pu z) (fun _ => False) ms e f S (fun _ z => .inl z) h1 h3 p0 p1 ⟨w.1, fun _ z => z⟩ (fun _ z => z.elim) hT
    · exact fin B2 H2 σ2 δ2 _ R2 i' v (.ow R') Mv ms e f S (fun _ z => .inl z) h1 h3 p0 p1 w (fun a ha => ⟨old B2 a e (S.fb a (.inr ha)) (fun fz => nF a ha fz), S.fb a (.inr ha), fun z => h3 0 a z (.inr ha)⟩) hT
    · obtain ⟨v', ev', hP', hb'⟩ := h1 k _ hkk
      rw [w.1] at ev'
      cases ev'
      exact fin B2 H2 σ2 δ2 _ R2 i' v (.ow R') (ms k) ms e f S (fun _ z => .inl z) h1 h3 p0 p1 hP' (fun a ha => ⟨old B2 a e (hb' a ha) (fun fz => h3 k a ha (.inl fz)), hb' a ha, fun z => hk (h2 k 0 a ha z)⟩) hT
end
/-! ### methods, classes -/
structure Met (P : Program) (w : World) (K : PySem.W.Frag) (mg : Str → Option Value) (base : Heap) (k : Nat) (C : Addr) (m : Str) (sp : Sp) : Prop where
  ex : ∃ (f : Addr) (fd : FuncData) (ps : List Str), Cls K C ∧ Meth K C m f ∧ FnOk P w K mg base CX0 k f fd ps sp ∧ Binds K fd ps []
structure Mak (P : Program) (w : World) (K : PySem.W.Frag) (mg : Str → Option Value) (base : Heap) (k : Nat) (x : Str) (C : Addr) (sp : Sp) : Prop where
  ex : ∃ (f : Addr) (fd : FuncData) (ps : List Str), Mk K C f ∧ FnOk P w K mg base CX0 k f fd ps sp ∧ mg x = some (.ref C) ∧ Binds K fd ps []
structure DfM (K : PySem.W.Frag) (C : Addr) (m qual : Str) (st : Stmt) (ps : List Str) : Prop where
  ex : ∃ f fd, Fun K m qual st f fd ∧ Cls K C ∧ Meth K C m f ∧ Binds K fd ps []
structure DfI (K : PySem.W.Frag) (mg : Str → Option Value) (C : Addr) (x qual : Str) (st : Stmt) (ps : List Str) : Prop where
  ex : ∃ f fd, Fun K "__init__" qual st f fd ∧ Mk K C f ∧ mg x = some (.ref C) ∧ Binds K fd ps []
section
variable {P : Program} {w : World} {K : PySem.W.Frag} {mg : Str → Option Value} {base : Heap} {C : Addr} {x m qual : Str} {st : Stmt} {N ps : List Str} {k j n : Nat} {I : Type} {adr : I → Addr} {R : I → Res} {pre : I → List PyData → Prop} {T : I → List PyData → I → Slot → Prop} {sp : Sp}
/-- what a body must show -/
def BodyM (P : Program) (w : World) (K : PySem.W.Frag) (mg : Str → Option Value) (base : Heap) (k : Nat) (qual : Str) (st : Stmt) (N : List Str) (f : Addr) {I : Type} (adr : I → Addr) (R : I → Res) (n : Nat) (pre : I → List PyData → Prop) (T : I → List PyData → I → Slot → Prop) : Prop :=
  ∀ (cdv : Value) (A : Around) (outer : List Env) (s : Shared) (H : Hp) (E : XK), Room k (A.deeper (envOfC qual (defScope st) s.heap.objs.size f cdv)) →
    ∃ t, PSs (cxOf CX0 P w K mg base N qual (defScope st) f cdv A outer s H E).nox (defBody st) t ∧ ∀ i ds, ds.length = n → pre i ds → ExS K t (DnM adr R T i ds) (.ow (R i) :: (ds.map Slot.pu ++ List.replicate (N.length - (ds.length + 1)) Slot.non))
theorem fn_M {f : Addr} {fd : FuncData} (F : Fun K m qual st f fd) (S : FnScope N ps (defScope st)) (hn : ps.length = n + 1) (hbody : BodyM P w K mg base k qual st N f adr R n pre T) : FnOk P w K mg base CX0 (k + 1) f fd ps (spM K adr R n pre T) :=
  F.ok S (fun vs H Q E h => by rw [spM_len h, hn]) fun cdv A outer s H vs Q E hr h => by
    obtain ⟨t, ht, hx⟩ := hbody cdv A outer s H E hr
    exact ⟨t, ht, body_M h hx⟩
theorem metM (D : DfM K C m qual st ps) (S : FnScope N ps (defScope st)) (hn : ps.length = n + 1) (hbody : ∀ f, BodyM P w K mg base k qual st N f adr R n pre T) : Met P w K mg base (k + 1) C m (spM K adr R n pre T) := by
  obtain ⟨f, fd, F, c, hm, b⟩ := D.ex
  exact ⟨f, fd, ps, c, hm, fn_M F S hn (hbody f), b⟩
theorem makM (D : DfI K mg C x qual st ps) (S : FnScope N ps (defScope st)) (hn : ps.length = n + 1) (hbody : ∀ f, BodyM P w K mg base k qual st N f adr R n pre T) : Mak P w K mg base (k + 1) x C (spM K adr R n pre T) := by
  obtain ⟨f, fd, F, M, hm, b⟩ := D.ex
  exact ⟨f, fd, ps, M, fn_M F S hn (hbody f), hm, b⟩
theorem calM (D : Df K mg x st ps) (S : FnScope N ps (defScope st)) (hn : ps.length = n + 1) (hbody : ∀ f, BodyM P w K mg base k x st N f adr R n pre T) : Cal P w K mg base (k + 1) x (spM K adr R n pre T) := by
  obtain ⟨f, fd, F, hm, b⟩ := D.ex
  exact ⟨f, fd, ps, fn_M F S hn (hbody f), hm, F.kp, b⟩
end
section
variable {X : Cx} {k j : Nat} {C : Addr} {x m : Str} {sp : Sp} {p pos apos : Pos} {e o : Expr} {es : List Expr} {ta : TE} {t : TA}
theorem pe_mk (c : Mak X.prog X.w X.K X.mg X.base k x C sp) (hr : Room j X.A) (ha : PA X (e :: es) t) (hk : k + 1 ≤ j := by decide) (hg : Gl X x := by rfl)
    (hdb : (x == ("__debug__" : Str)) = false := by decide) (he : starEach (e :: es) X.env = (false, eval e X.env) :: starEach es X.env := by rfl) (hpl : (backTo pos (starEach es X.env)).any (·.1) = false := by rfl) :
    PE X (.Call (.Name x p) (e :: es) [] pos) (tMake C sp [] E0 t) := by
  obtain ⟨f, fd, ps, M, F, hm, b⟩ := c.ex
  exact pe_make M F (hr.mono hk) hg hm b .nil pass0 ha hdb he hpl
theorem pe_m {pl : Sem Bool} (c : Met X.prog X.w X.K X.mg X.base k C m sp) (hr : Room j X.A) (he : PE X o ta) (ha : PA X (e :: es) t) (hk : k ≤ j := by decide)
    (hst : starEach (e :: es) X.env = (false, eval e X.env) :: starEach es X.env := by rfl) (hpl : (backTo pos (starEach es X.env)).any (·.1) = false := by rfl)
    (ht : eval (.Call (.Attribute o m apos) (e :: es) [] pos) X.env = (do
      let ov ← eval o X.env
      standAt apos.atName
      let (f, first) ← holding [ov] (getMethod ov m pl)
      callWith pos f first (backTo pos (starEach (e :: es) X.env)) (backToKw pos (keywordEach [] X.env))) := by rfl) :
    PE X (.Call (.Attribute o m apos) (e :: es) [] pos) (tMeth C m sp [] E0 ta t) := by
  obtain ⟨f, fd, ps, hc, hm, F, b⟩ := c.ex
  exact pe_meth (pl := pl) he hc hm F (hr.mono hk) b .nil pass0 ha hst hpl ht
theorem pe_m0 {pl : Sem Bool} (c : Met X.prog X.w X.K X.mg X.base k C m sp) (hr : Room j X.A) (he : PE X o ta) (hk : k ≤ j := by decide)
    (ht : eval (.Call (.Attribute o m apos) [] [] pos) X.env = (do
      let ov ← eval o X.env
      standAt apos.atName
      let (f, first) ← holding [ov] (getMethod ov m pl)
      callWith pos f first (backTo pos (starEach [] X.env)) (backToKw pos (keywordEach [] X.env))) := by rfl) :
    PE X (.Call (.Attribute o m apos) [] [] pos) (tMeth C m sp [] E0 ta tNil) := by
  obtain ⟨f, fd, ps, hc, hm, F, b⟩ := c.ex
  exact pe_meth0 (pl := pl) he hc hm F (hr.mono hk) b .nil pass0 ht
end
end Dl
namespace Kk
open PySem PySem.Spec PyProof.Rows L2
theorem pe_fld {X : Cx} {K : PySem.W.Frag} {e : Expr} {f : Str} {pos : Pos} {ta : TE} (he : PE X e ta) (hb : attributeBase e f X.env (eval e X.env) = eval e X.env) (h : X.K = K := by rfl) : PE X (.Attribute e f pos) (tFld K ta f) := h ▸ L2.pe_fld he hb
theorem ps_fld {X : Cx} {K : PySem.W.Frag} {o value : Expr} {f : Str} {pos pos' : Pos} {ta tv : TE} (ha : PE X o ta) (hv : PE X value tv) (hs : swapsWith value (some (.Attribute o f pos')) pos.line X.env = pure false) (h : X.K = K := by rfl) : PS X (.Assign [.Attribute o f pos'] value pos) (sFld K ta tv f) := h ▸ L2.ps_fld ha hv hs
end Kk

/-! Dl16: dicts with int and text keys, data as values; displays; comprehensions that make what is owned. -/
namespace Dl
open PySem PySem.Spec PyProof.Rows L2
open Evl (Ex)
inductive KxAll (K : PySem.W.Frag) (B : Hp) : List (Key × V) → List (Key × PyData) → Prop
  | nil : KxAll K B [] []
  | cons {k : Key} {v : V} {d : PyData} {xs : List (Key × V)} {kvs : List (Key × PyData)} : Dp K B v d → KxAll K B xs kvs → KxAll K B ((k, v) :: xs) ((k, d) :: kvs)
def lookX {β : Type} (kvs : List (Key × β)) (k : Key) : Option β := (kvs.find? fun kv => decide (kv.1 = k)).map (·.2)
def putX {β : Type} (kvs : List (Key × β)) (k : Key) (d : β) : List (Key × β) :=
  if (kvs.any fun kv => decide (kv.1 = k)) = true then kvs.map (fun kv => if kv.1 = k then (kv.1, d) else kv) else kvs ++ [(k, d)]
def mergeX {β : Type} (kvs more : List (Key × β)) : List (Key × β) := more.foldl (fun acc kv => putX acc kv.1 kv.2) kvs
def keyD : Key → PyData
  | .inl i => .int i
  | .inr x => .str x
theorem keyD_val {K : PySem.W.Frag} {B : Hp} {v : V} {k : Key} (h : Dp K B v (keyD k)) : v = kV k := by
  cases k with
  | inl i => exact dp_int_inv h
  | inr x => exact dp_str_inv h
section
variable {K : PySem.W.Frag} {B B' : Hp}
theorem kxa_mono (e : Ex B B') : ∀ {xs : List (Key × V)} {kvs : List (Key × PyData)}, KxAll K B xs kvs → KxAll K B' xs kvs
  | _, _, .nil => .nil
  | _, _, .cons h t => .cons (dp_mono e _ _ h) (kxa_mono e t)
theorem kxa_len : ∀ {xs : List (Key × V)} {kvs : List (Key × PyData)}, KxAll K B xs kvs → xs.length = kvs.length
  | _, _, .nil => rfl
  | _, _, .cons _ t => by simp [kxa_len t]
theorem kxa_look {k : Key} : ∀ {xs : List (Key × V)} {kvs : List (Key × PyData)}, KxAll K B xs kvs → (lookX kvs k = none ∧ valV xs k = none) ∨ ∃ d v, lookX kvs k = some d ∧ valV xs k = some v ∧ Dp K B v d
  | _, _, .nil => .inl ⟨rfl, rfl⟩
  | _, _, @KxAll.cons _ _ i v d xs kvs h t => by
    by_cases e : i = k
    · subst e
      refine .inr ⟨d, v, ?_, valV_pos rfl, h⟩
      simp [lookX, List.find?_cons]
    · have e1 : lookX ((i, d) :: kvs) k = lookX kvs k := by simp [lookX, List.find?_cons, e]
      have e2 : valV ((i, v) :: xs) k = valV xs k := valV_neg e
      rw [e1, e2]
      exact kxa_look t
theorem kxa_any {k : Key} : ∀ {xs : List (Key × V)} {kvs : List (Key × PyData)}, KxAll K B xs kvs → (xs.any fun kv => decide (kv.1 = k)) = (kvs.any fun kv => decide (kv.1 = k))
  | _, _, .nil => rfl
  | _, _, @KxAll.cons _ _ i v d xs kvs h t => by
    rw [List.any_cons, List.any_cons, kxa_any t]
theorem kxa_app : ∀ {xs ys : List (Key × V)} {kvs lvs : List (Key × PyData)}, KxAll K B xs kvs → KxAll K B ys lvs → KxAll K B (xs ++ ys) (kvs ++ lvs)
  | _, _, _, _, .nil, s => s
  | _, _, _, _, .cons r t, s => .cons r (kxa_app t s)
theorem kxa_map {k : Key} {v : V} {d : PyData} (hd : Dp K B v d) : ∀ {xs : List (Key × V)} {kvs : List (Key × PyData)}, KxAll K B xs kvs → KxAll K B (xs.map fun kv => if kv.1 = k then (kv.1, v) else kv) (kvs.map fun kv => if kv.1 = k then (kv.1, d) else kv)
  | _, _, .nil => .nil
  | _, _, @KxAll.cons _ _ i v' d' xs kvs h t => by
    rw [List.map_cons, List.map_cons]
    by_cases e : i = k
    · subst e
      rw [if_pos rfl, if_pos rfl]
      exact .cons hd (kxa_map hd t)
    · rw [if_neg e, if_neg e]
      exact .cons h (kxa_map hd t)
theorem kxa_put {k : Key} {v : V} {d : PyData} (hd : Dp K B v d) {xs : List (Key × V)} {kvs : List (Key × PyData)} (h : KxAll K B xs kvs) : KxAll K B (putK xs k v) (putX kvs k d) := by
  unfold putK putX
  rw [kxa_any h]
  split
  · exact kxa_map hd h
  · exact kxa_app h (.cons hd .nil)
theorem kxa_merge {ys : List (Key × V)} {lvs : List (Key × PyData)} (h : KxAll K B ys lvs) : ∀ {xs : List (Key × V)} {kvs : List (Key × PyData)}, KxAll K B xs kvs → KxAll K B (mergeK xs ys) (mergeX kvs lvs) := by
  induction h with
  | nil => exact fun h => h
  | cons hd t ih => exact fun h => ih (kxa_put hd h)
end
/-- a dict with int and text keys, owned -/
def RDx (K : PySem.W.Frag) (kvs : List (Key × PyData)) : Res where
  P v B H M := ∃ p xs, v = .ref p ∧ H p = some (.dK xs) ∧ KxAll K B xs kvs ∧ ∀ a, M a ↔ a = p
  loc := by
    rintro v B H B' H' M ⟨p, xs, rfl, hp, hd, hM⟩ e k
    exact ⟨p, xs, rfl, by rw [k p ((hM p).mpr rfl)]; exact hp, kxa_mono e hd, hM⟩
  live := by
    rintro v B H M ⟨p, xs, rfl, hp, hd, hM⟩ a ha
    rw [(hM a).mp ha, hp]
    exact fun z => nomatch z
/-- pairs of a display, keys and data -/
def EvPs (K : PySem.W.Frag) (trs : List (TE × TE)) (δ : List Slot) (Φ : List (Key × PyData) → List Slot → Prop) : Prop :=
  ∀ (B H : Hp) (σ : L2.St) (F : Addr → Prop) (Q : List (V × V) → Hp → Prop), Sd K B H σ δ F →
    (∀ xs kvs B2 H2 δ2, Ex B B2 → (∀ a, F a → H2 a = H a) → Sd K B2 H2 σ δ2 F → KxAll K B2 xs kvs → Φ kvs δ2 → Q (xs.map fun kv => (kV kv.1, kv.2)) H2) → tPairs trs σ H Q
section
variable {K : PySem.W.Frag} {w : World} {δ : List Slot} {te ta tb tc : TE} {tr : TA} {tt : TT} {t u : TS} {d : Dn} {Φ : Slot → List Slot → Prop}
theorem ep_nil {Φ : List (Key × PyData) → List Slot → Prop} (h : Φ [] δ) : EvPs K [] δ Φ := fun B H σ F Q S k => k [] [] B H δ (Ex.refl _) (fun _ _ => rfl) S .nil h
theorem ep_cons {trs : List (TE × TE)} {Φ : List (Key × PyData) → List Slot → Prop} (h : EvS K ta δ fun s δ1 => ∃ k, s = .pu (keyD k) ∧ EvD K tb δ1 fun x δ2 => EvPs K trs δ2 fun kvs δ3 => Φ ((k, x) :: kvs) δ3) : EvPs K ((ta, tb) :: trs) δ Φ := fun B H σ F Q S kk =>
  h B H σ F _ S fun v M s B1 H1 δ1 e1 f1 S1 w1 n1 ⟨k, es, p⟩ => by
    subst es
    have ev := keyD_val w1.1
    subst ev
    refine p B1 H1 σ F _ (S1.less fun a z => .inl z) fun u x B2 H2 δ2 e2 f2 S2 hd q => q B2 H2 σ F _ S2 fun xs kvs B3 H3 δ3 e3 f3 S3 ha r => ?_
    exact kk ((k, u) :: xs) ((k, x) :: kvs) B3 H3 δ3 ((e1.trans e2).trans e3) (fun a z => (f3 a z).trans ((f2 a z).trans (f1 a z))) S3 (.cons (dp_mono e3 _ _ hd) ha) r
theorem ev_disp {trs : List (TE × TE)} (h : EvPs K trs δ fun kvs δ1 => kvs.length ≤ 15 ∧ Φ (.ow (RDx K (mergeX [] kvs))) δ1) : EvS K (tDisp trs) δ Φ := fun B H σ F Q S k p hp => by
  have S1 := sd_own (o := .dK []) S hp
  refine h B _ σ _ _ S1 fun xs kvs B2 H2 δ2 e f S2 ha ⟨hl, q⟩ => ⟨by rw [f p (.inr rfl), upd_same], xs, rfl, by rw [kxa_len ha]; exact hl, ?_⟩
  have hbp : B2 p = none := S2.fb p (.inr rfl)
  have nF : ∀ a, F a → a ≠ p := fun a z e => S.fl a z (by rw [e]; exact hp)
  refine k (.ref p) (fun a => a = p) (.ow (RDx K (mergeX [] kvs))) B2 _ δ2 e (fun a z => by rw [upd_ne (nF a z), f a (.inl z), upd_ne (nF a z)]) ?_ ⟨p, _, rfl, upd_same, kxa_merge ha .nil, fun _ => Iff.rfl⟩ (fun a z f => nF a f z) q
  obtain ⟨ms, h1, h2, h3, h4⟩ := S2.sl
  refine ⟨fun a u ha' => ?_, S2.len, S2.fb, fun a z => ?_, ms, fun i s hs => ?_, h2, h3, h4⟩
  · rw [upd_ne (fun e => by rw [e, hbp] at ha'; cases ha')]
    exact S2.bh a u ha'
  · by_cases e5 : a = p
    · rw [e5, upd_same]; exact fun z => nomatch z
    · rw [upd_ne e5]; exact S2.fl a z
  · have q := h1 i s hs
    cases s with
    | non => exact q
    | pu x => exact q
    | ow R =>
      obtain ⟨v, ev, hP, hb'⟩ := q
      exact ⟨v, ev, R.loc hP (Ex.refl _) fun a z => upd_ne fun e5 => h3 i a z (.inr e5), hb'⟩
    | al _ => exact q
/-- {..}[k], d[k] -/
def xden (K : PySem.W.Frag) (δ : List Slot) (s : Slot) (kvs : List (Key × PyData)) : Prop := s = .ow (RDx K kvs) ∨ ∃ i, s = .al i ∧ δ[i]? = some (.ow (RDx K kvs))
theorem xd_at {σ : L2.St} {B H : Hp} {F : Addr → Prop} {v : V} {M : Addr → Prop} {s : Slot} {kvs : List (Key × PyData)} (S : Sd K B H σ δ F) (h : VOk K σ δ B H v M s) (hd : xden K δ s kvs) : ∃ p xs, v = .ref p ∧ H p = some (.dK xs) ∧ KxAll K B xs kvs := by
  rcases hd with rfl | ⟨i, rfl, hi⟩
  · obtain ⟨p, xs, h1, h2, h3, _⟩ := h
    exact ⟨p, xs, h1, h2, h3⟩
  · obtain ⟨v', M', ev, ⟨p, xs, rfl, hp, ha, _⟩, _⟩ := S.opn hi
    rw [h.1] at ev
    cases ev
    exact ⟨p, xs, rfl, hp, ha⟩
theorem ev_xget (h : EvS K ta δ fun s δ1 => EvS K tb δ1 fun s2 δ2 => ∃ kvs k x, xden K δ2 s kvs ∧ s2 = .pu (keyD k) ∧ lookX kvs k = some x ∧ Φ (.pu x) δ2) : EvS K (tDGet ta tb) δ Φ := fun B H σ F Q S kk =>
  h B H σ F _ S fun v1 M1 s1 B1 H1 δ1 e1 f1 S1 w1 n1 p1 => p1 B1 H1 σ _ _ S1 fun v2 M2 s2 B2 H2 δ2 e2 f2 S2 w2 n2 ⟨kvs, k, x, hx, es, hl, q⟩ => by
    subst es
    obtain ⟨p, xs, rfl, hp, ha⟩ := xd_at S2 (w1.step (δ2 := δ2) e2 fun a ha => f2 a (.inr ha)) hx
    rcases kxa_look (k := k) ha with ⟨a, b⟩ | ⟨y, u, a, b, hd⟩
    · rw [hl] at a; cases a
    · rw [hl] at a
      cases a
      refine ⟨p, u, rfl, by rw [keyD_val w2.1, ← b]; exact DGet.k hp, ?_⟩
      exact kk u (fun _ => False) (.pu x) B2 H2 δ2 (e1.trans e2) (fun a z => (f2 a (.inl z)).trans (f1 a z)) (S2.less fun a z => .inl (.inl (z.elim id False.elim))) ⟨hd, fun _ z => z⟩ (fun _ z => z.elim) q
theorem xs_xput {j : Nat} (h : EvD K te δ fun x δ1 => ∃ kvs0, δ1[j]? = some (.ow (RDx K kvs0)) ∧ EvS K tb δ1 fun s δ2 => ∃ (k : Key) (kvs : List (Key × PyData)), s = .pu (keyD k) ∧ δ2[j]? = some (.ow (RDx K kvs)) ∧ kvs.length < 100000 ∧ d.nx (δ2.set j (.ow (RDx K (putX kvs k x))))) : ExS K (sDPut (tVar j) tb te) d δ := fun B H σ F D S L =>
  h B H σ F _ S fun v x B1 H1 δ1 e1 f1 S1 hd ⟨kvs0, h0, p⟩ => by
    obtain ⟨v0, M0, ev0, ⟨p0, xs0, rfl, _⟩, _⟩ := S1.opn h0
    refine ⟨_, ev0, p B1 H1 σ F _ S1 fun u M s B2 H2 δ2 e2 f2 S2 w2 n2 ⟨k, kvs, es, hj, hl, q⟩ => ?_⟩
    subst es
    have S2' : Sd K B2 H2 σ δ2 F := S2.less fun a z => .inl z
    obtain ⟨vv, MM, ev, ⟨pp, xs, rfl, hp, ha, hM⟩, hb, hF, op⟩ := S2'.opn hj
    rw [ev0] at ev
    cases ev
    have hbp : B2 p0 = none := hb p0 ((hM p0).mpr rfl)
    refine ⟨p0, _, rfl, by rw [keyD_val w2.1]; exact DPut.k hp (Evl.sz_lt (by rw [kxa_len ha]; exact hl)), ?_⟩
    have q2 := op B2 (upd H2 p0 (.dK (putK xs k v))) (some (.ref p0)) (.ow (RDx K (putX kvs k x))) (fun a => a = p0) (Ex.refl _) (fun a u ha' => by
      rw [upd_ne (fun e => by rw [e, hbp] at ha'; cases ha')]
      exact S2'.bh a u ha') (fun a o ha' nm => by rw [upd_ne (fun e => nm ((hM a).mpr e))]; exact ha') (fun _ _ z => .inl z)
      ⟨_, rfl, ⟨p0, _, rfl, upd_same, kxa_put (dp_mono e2 _ _ hd) ha, fun _ => Iff.rfl⟩, fun a z => by rw [z]; exact hbp⟩ (fun a z => .inl ((hM a).mpr z))
    rw [set_self ev0] at q2
    exact L.nx B2 _ σ _ (e1.trans e2) (fun a z => by rw [upd_ne (fun e => hF a ((hM a).mpr e) z), f2 a z, f1 a z]) q2 q
theorem ev_xin {neg : Bool} {td : TE} (r : TE) (hr : r = (if neg then tDNotIn ta td else tDIn ta td)) (h : EvS K ta δ fun s δ1 => EvS K td δ1 fun s2 δ2 => ∃ kvs k, s = .pu (keyD k) ∧ xden K δ2 s2 kvs ∧ Φ (.pu (.bool (if neg then !(lookX kvs k).isSome else (lookX kvs k).isSome))) δ2) : EvS K r δ Φ := fun B H σ F Q S kk => by
  have key : ta σ H fun y H1 => td σ H1 fun x H2 => ∃ a o, x = .ref a ∧ DGet H2 a y o ∧ Q (.bl (if neg then !o.isSome else o.isSome)) H2 :=
    h B H σ F _ S fun v1 M1 s1 B1 H1 δ1 e1 f1 S1 w1 n1 p1 => p1 B1 H1 σ _ _ S1 fun v2 M2 s2 B2 H2 δ2 e2 f2 S2 w2 n2 ⟨kvs, k, es, hx, q⟩ => by
      subst es
      obtain ⟨p, xs, rfl, hp, ha⟩ := xd_at S2 w2 hx
      refine ⟨p, valV xs k, rfl, by rw [keyD_val w1.1]; exact DGet.k hp, ?_⟩
      have e : (valV xs k).isSome = (lookX kvs k).isSome := by
        rcases kxa_look (k := k) ha with ⟨a, b⟩ | ⟨_, _, a, b, _⟩ <;> rw [a, b] <;> rfl
      rw [e]
      exact kk _ (fun _ => False) (.pu (.bool _)) B2 H2 δ2 (e1.trans e2) (fun a z => (f2 a (.inl z)).trans (f1 a z)) (S2.less fun a z => .inl (.inl (z.elim id False.elim))) ⟨.bl _, fun _ z => z⟩ (fun _ z => z.elim) q
  rw [hr]
  cases neg with
  | true => exact key
  | false => exact key
/-! ### [C(x) for x in t]: what is made is owned -/
/-- cells made one behind another, the list of their roots at D -/
def blocks (D : Addr) (bs : List (Addr × Cells)) : Cells := (D, .lst ((bs.map (·.1)).map .r)) :: (bs.map (·.2)).flatten
theorem ev_lcTo {j : Nat} (h : EvS K ta δ fun s δ1 => ∃ ds, s = .pu (.tuple ds) ∧ ds.length ≤ 100000 ∧ Junk (δ1.getD j .non) ∧ j < δ1.length ∧ ∃ Pv : Nat → List (Addr × Cells) → Prop, Pv 0 [] ∧
    (∀ (i : Nat) y bs, ds[i]? = some y → Pv i bs → EvS K te (δ1.set j (.pu y)) fun s2 δ2 => δ2 = δ1.set j (.pu y) ∧ ∃ a cs, s2 = .ow (RH K a cs) ∧ Pv (i + 1) (bs ++ [(a, cs)])) ∧
    ∀ bs, bs.length = ds.length → Pv ds.length bs → ∀ D, Φ (.ow (RH K D (blocks D bs))) δ1) : EvS K (tLc (iTup K ta) (gName j) tYes te [j]) δ Φ := fun B H σ F Q S kk =>
  h B H σ F _ S fun v M s B2 H2 δ1 e f S2 w n ⟨ds, es, hdl, hjk, hj, Pv, h0, hs, hd⟩ => by
    subst es
    have S2' : Sd K B2 H2 σ δ1 F := S2.less fun a z => .inl z
    have hw : ∀ i ∈ [j], ∀ s, δ1[i]? = some s → s = .non ∨ ∃ d, s = .pu d := fun i hi s hs => by
      rw [List.mem_singleton.mp hi] at hs
      rw [List.getD_eq_getElem?_getD, hs] at hjk
      exact hjk
    have hd0 := w.1
    cases hd0 with
    | @tup p xs _ hq ha =>
      refine ⟨p, rfl, ⟨xs, Evl.ex_t S2.bh hq⟩, fun D hD => ?_⟩
      have nF : ¬ F D := fun z => S2'.fl D z hD
      -- what holds between two turns
      let Inv := fun (i : Nat) (H' : Hp) => ∃ B' bs Mb, Ex B2 B' ∧ (∀ a, F a → H' a = H2 a) ∧ Sd K B' H' σ δ1 (fun a => F a ∨ Mb a) ∧ (∀ a, Mb a → ¬ F a) ∧ (RH K D (blocks D bs)).P (.ref D) B' H' Mb ∧ Pv i bs ∧ bs.length = i
      refine ⟨fun i m H' => m = ds.length - i ∧ i ≤ ds.length ∧ Inv i H', ⟨ds.length, rfl, Nat.zero_le _, B2, [], (fun a => a = D), Ex.refl _, fun a z => upd_ne fun e => nF (by rw [← e]; exact z), sd_own S2' hD, (fun a e z => nF (e ▸ z)), ⟨rfl, fun y hy => ?_, by simp [blocks], fun a => by simp [blocks]⟩, h0, rfl⟩, ?_⟩
      · rcases List.mem_cons.mp hy with rfl | hy
        · exact ⟨[], upd_same, .nil⟩
        · cases hy
      rintro i m H' ⟨rfl, hi, B', bs, Mb, e', f', S', nMb, hP, pv, hbl⟩
      by_cases hlt : i < ds.length
      · have hq' : SqT K H' p xs := Evl.ex_t (e'.trans S'.bh) hq
        obtain ⟨w2, hw2, hdw⟩ := dpa_get ha (List.getElem?_eq_getElem hlt)
        refine .inr ⟨⟨xs, w2, hq', hw2⟩, Inv (i + 1), fun H2 q => ⟨ds.length - (i + 1), by omega, rfl, hlt, q⟩, fun x H3 hy => ?_⟩
        obtain ⟨e1, e2⟩ := hy
        subst e1
        have e3 := (e2 xs hq').symm.trans hw2
        cases e3
        have hdx : Dp K B' w2 ds[i] := dp_mono e' _ _ hdw
        refine ⟨?_, ?_⟩
        · exact wipe_ext (by rw [List.length_set, wipe_length]) fun k hk => by rw [List.getElem?_set_ne (fun z => hk (by rw [z]; exact List.mem_singleton.mpr rfl)), wipe_out hk]
        · show if true = true then te ((wipe σ [j]).set j (some w2)) H3 fun y H4 => ∃ acc, H4 D = some (HO.lst acc) ∧ acc.length < sizeLine ∧ Inv (i + 1) (upd H4 D (HO.lst (acc ++ [y]))) else Inv (i + 1) H3
          rw [if_pos rfl]
          have S3 : Sd K B' H3 ((wipe σ [j]).set j (some w2)) (δ1.set j (.pu ds[i])) (fun a => F a ∨ Mb a) := by
            have := (S'.wiped [j]).put_pu hdx (by rw [wipeD_len]; exact hj)
            have e4 : (wipeD δ1 [j]).set j (.pu ds[i]) = δ1.set j (.pu ds[i]) := by
              show (δ1.set j .non).set j (.pu ds[i]) = _
              rw [List.set_set]
            rw [e4] at this
            exact this
          refine hs i _ bs (List.getElem?_eq_getElem hlt) pv B' H3 _ _ _ S3 fun y My s2 B4 H4 δ4 e4 f4 S4 w4 n4 ⟨eδ, a, cs, es2, pv2⟩ => ?_
          subst es2 eδ
          obtain ⟨hy0, hy1, hy2, hy3⟩ := w4
          subst hy0
          obtain ⟨hb0, hb1, hb2, hb3⟩ := hP
          have hDm : Mb D := (hb3 D).mpr (by simp [blocks])
          have hD4 : H4 D = H3 D := f4 D (.inr hDm)
          obtain ⟨vs, hv1, hv2⟩ := hb1 (D, .lst ((bs.map (·.1)).map .r)) (List.mem_cons_self ..)
          have hv : H4 D = some (.lst vs) := by rw [hD4]; exact hv1
          have hvl : vs.length = i := by rw [cva_len hv2, List.length_map, List.length_map, hbl]
          have hBD : B4 D = none := S4.fb D (.inl (.inr hDm))
          refine ⟨vs, hv, Evl.sz_lt (by omega), B4, bs ++ [(a, cs)], (fun c => Mb c ∨ My c), e'.trans e4, fun c z => ?_, ?_, fun c z => ?_, ⟨rfl, fun y hy => ?_, ?_, fun c => ?_⟩, pv2, by rw [List.length_append, hbl]; rfl⟩
          · rw [upd_ne (fun e => nF (by rw [← e]; exact z)), f4 c (.inl z), f' c z]
          · -- the names are as before
            have S5 : Sd K B4 H4 σ δ1 (fun c => (F c ∨ Mb c) ∨ My c) := S'.unwipe (vs := [j]) S4 e4 (fun k hk => by
              have hne : j ≠ k := fun z => hk (by rw [z]; exact List.mem_singleton.mpr rfl)
              rw [List.getElem?_set_ne hne, wipe_out hk]) (fun k hk => by
              have hne : j ≠ k := fun z => hk (by rw [z]; exact List.mem_singleton.mpr rfl)
              rw [List.getElem?_set_ne hne]) hw
            obtain ⟨ms, h1, h2, h3, h4⟩ := S5.sl
            refine ⟨fun c u hc => ?_, S5.len, fun c z => S5.fb c (z.elim (fun z => .inl (.inl z)) fun z => z.elim (fun z => .inl (.inr z)) .inr), fun c z => ?_, ms, fun k s hs => ?_, h2, fun k c q z => h3 k c q (z.elim (fun z => .inl (.inl z)) fun z => z.elim (fun z => .inl (.inr z)) .inr), h4⟩
            · rw [upd_ne (fun e => by rw [e, hBD] at hc; cases hc)]
              exact S5.bh c u hc
            · by_cases e5 : c = D
              · rw [e5, upd_same]; exact fun z => nomatch z
              · rw [upd_ne e5]
                exact S5.fl c (z.elim (fun z => .inl (.inl z)) fun z => z.elim (fun z => .inl (.inr z)) .inr)
            · have q := h1 k s hs
              cases s with
              | non => exact q
              | pu x => exact q
              | ow R =>
                obtain ⟨v, ev, hP', hb'⟩ := q
                exact ⟨v, ev, R.loc hP' (Ex.refl _) fun c z => upd_ne fun e5 => h3 k c z (.inl (.inr (by rw [e5]; exact hDm))), hb'⟩
              | al _ => exact q
          · rcases z with z | z
            · exact nMb c z
            · exact fun hf => n4 c z (.inl hf)
          · have neD : ∀ c, My c → c ≠ D := fun c z e => n4 c z (.inr (by rw [e]; exact hDm))
            rcases List.mem_cons.mp hy with rfl | hy
            · show CellAt K B4 (upd H4 D _ D) _
              rw [upd_same]
              refine ⟨_, rfl, ?_⟩
              rw [List.map_append, List.map_append]
              exact cva_app (cva_mono e4 hv2) (.cons rfl .nil)
            · rw [List.map_append, List.flatten_append] at hy
              rcases List.mem_append.mp hy with hy | hy
              · have hyb : y ∈ blocks D bs := List.mem_cons_of_mem _ hy
                have hne : y.1 ≠ D := fun e => (List.nodup_cons.mp (by have := hb2; unfold blocks at this; rw [List.map_cons] at this; exact this)).1 (by rw [← e]; exact List.mem_map.mpr ⟨y, hy, rfl⟩)
                rw [upd_ne hne, f4 y.1 (.inr ((hb3 y.1).mpr (List.mem_map.mpr ⟨y, hyb, rfl⟩)))]
                exact cell_mono e4 (hb1 y hyb)
              · have hyc : y ∈ cs := by simpa using hy
                rw [upd_ne (neD y.1 ((hy3 y.1).mpr (List.mem_map.mpr ⟨y, hyc, rfl⟩)))]
                exact hy1 y hyc
          · have e6 : (blocks D (bs ++ [(a, cs)])).map (·.1) = (blocks D bs).map (·.1) ++ cs.map (·.1) := by simp [blocks]
            rw [e6, List.nodup_append]
            refine ⟨hb2, hy2, fun c hc d hd e => ?_⟩
            subst e
            exact n4 c ((hy3 c).mpr hd) (.inr ((hb3 c).mpr hc))
          · have e6 : (blocks D (bs ++ [(a, cs)])).map (·.1) = (blocks D bs).map (·.1) ++ cs.map (·.1) := by simp [blocks]
            rw [e6, List.mem_append, ← hb3, ← hy3]
      · have e1 : i = ds.length := by omega
        subst e1
        refine .inl ⟨⟨xs, Evl.ex_t (e'.trans S'.bh) hq, Nat.le_of_eq (dpa_len ha)⟩, ?_⟩
        exact kk (.ref D) Mb (.ow (RH K D (blocks D bs))) B' H' δ1 (e.trans e') (fun a z => (f' a z).trans (f a z)) S' hP nMb (hd bs hbl pv D)
end
end Dl

/-! Dl17: fields of a new instance. -/
namespace Dl
open PySem PySem.Spec PyProof.Rows L2
open Evl (Ex)
section
variable {K : PySem.W.Frag} {w : World} {δ : List Slot} {te ta tb tc : TE} {tr : TA} {tt : TT} {t u : TS} {d : Dn} {Φ : Slot → List Slot → Prop} {B H : Hp} {σ : L2.St} {F M1 : Addr → Prop} {C : Addr} {f : Str} {cs cs2 : Cells} {root : Addr} {v : V} {M : Addr → Prop}
theorem RH.perm (hp : cs.Perm cs2) (h : (RH K root cs).P v B H M) : (RH K root cs2).P v B H M := by
  obtain ⟨h0, h1, h2, h3⟩ := h
  have hm := hp.map (·.1)
  exact ⟨h0, fun x hx => h1 x (hp.mem_iff.mpr hx), hm.nodup_iff.mp h2, fun a => (h3 a).trans hm.mem_iff⟩
/-- self.f = data, self a new instance -/
theorem xs_insD (c : Cls K C) (n : NoAttr K C f) (h : EvD K te δ fun x δ1 => ∃ a fs cs, δ1[0]? = some (.ow (RH K a ((a, .ins C fs) :: cs))) ∧ fs.length < 1000 ∧ d.nx (δ1.set 0 (.ow (RH K a ((a, .ins C (putC f (.d x) fs)) :: cs))))) : ExS K (sFld K (tVar 0) te f) d δ :=
  xs_fldD fun B H σ F Q S k => h B H σ F Q S fun v x B2 H2 δ2 e f' S2 hd ⟨a, fs, cs, h0, hl, q⟩ => k v x B2 H2 δ2 e f' S2 hd (ev_al h0 ⟨0, _, _, a, ⟨h0, .inr ⟨rfl, rh_at⟩⟩, put_d (cs' := fun c => (a, c) :: cs) ⟨[], cs, rfl, fun _ => rfl⟩ c n hl, q⟩)
/-- self.f = what is owned -/
theorem xs_insO (c : Cls K C) (n : NoAttr K C f) (h : EvS K te δ fun s1 δ1 => (∃ D cs1, s1 = .ow (RH K D cs1) ∧ ∃ a fs cs, δ1[0]? = some (.ow (RH K a ((a, .ins C fs) :: cs))) ∧ fs.length < 1000 ∧ d.nx (δ1.set 0 (.ow (RH K a ((a, .ins C (putC f (.r D) fs)) :: (cs ++ cs1)))))) ∨ ∃ ds, s1 = .ow (RL K ds) ∧ ∃ a fs cs, δ1[0]? = some (.ow (RH K a ((a, .ins C fs) :: cs))) ∧ fs.length < 1000 ∧ ∀ D, d.nx (δ1.set 0 (.ow (RH K a ((a, .ins C (putC f (.r D) fs)) :: (cs ++ [(D, .lst (ds.map .d))])))))) : ExS K (sFld K (tVar 0) te f) d δ := fun B H σ F DD S L =>
  h B H σ F _ S fun v M1 s1 B1 H1 δ1 e1 f1 S1 w1 n1 p => by
    have key : ∃ D cs1, (RH K D cs1).P v B1 H1 M1 ∧ ∃ a fs cs, δ1[0]? = some (.ow (RH K a ((a, .ins C fs) :: cs))) ∧ fs.length < 1000 ∧ d.nx (δ1.set 0 (.ow (RH K a ((a, .ins C (putC f (.r D) fs)) :: (cs ++ cs1))))) := by
      rcases p with ⟨D, cs1, es, q⟩ | ⟨ds, es, a, fs, cs, h0, hl, q⟩
      · subst es
        exact ⟨D, cs1, w1, q⟩
      · subst es
        obtain ⟨r, xs, rfl, hr, hx, hM1⟩ := w1
        exact ⟨r, _, ⟨rfl, fun y hy => by rw [List.mem_singleton.mp hy]; exact ⟨xs, hr, cva_data hx⟩, by simp, fun c => by simp [hM1 c]⟩, a, fs, cs, h0, hl, q r⟩
    obtain ⟨D, cs1, hD, a, fs, cs, h0, hl, q⟩ := key
    obtain ⟨v0, M, ev, hP, hb, hdis, op⟩ := S1.chg (fun c hc hf => n1 c hc hf) h0
    obtain ⟨g0, g1, g2, g3⟩ := hP
    obtain ⟨d0, d1, d2, d3⟩ := hD
    subst g0 d0
    have hMa : M a := (g3 a).mpr (by simp)
    obtain ⟨dx, ys, e2, e3⟩ := g1 (a, .ins C fs) (List.mem_cons_self ..)
    rw [List.map_cons] at g2
    obtain ⟨nd1, nd2⟩ := List.nodup_cons.mp g2
    refine ⟨_, ev, a, C, dx, ys, rfl, e2, c, n, by rw [fsa_len e3]; exact hl, ?_⟩
    have old : ∀ y, (y ∈ cs ∨ y ∈ cs1) → y.1 ≠ a := fun y hy e => by
      rcases hy with hy | hy
      · exact nd1 (e ▸ List.mem_map.mpr ⟨y, hy, rfl⟩)
      · exact (hdis a hMa).2 ((d3 a).mpr (e ▸ List.mem_map.mpr ⟨y, hy, rfl⟩))
    have S3 := op B1 (upd H1 a (.ins C dx (putF f (.ref D) ys))) (some (.ref a)) (.ow (RH K a ((a, .ins C (putC f (.r D) fs)) :: (cs ++ cs1)))) (fun c => M c ∨ M1 c) (fun _ => False) (Ex.refl _) (fun x u hx => by
      rw [upd_ne (fun e => by rw [e, hb a hMa] at hx; cases hx)]
      exact S1.bh x u hx) (fun x o hx hn _ => by rw [upd_ne (fun e => hn (by rw [e]; exact hMa))]; exact hx) (fun _ _ z => .inl z) ⟨_, rfl, ⟨rfl, fun y hy => ?_, ?_, fun x => ?_⟩, fun x hx => hx.elim (hb x) fun z => S1.fb x (.inr z)⟩ (fun x hx => hx.imp id .inl) (fun x z => z.elim)
    · rw [set_self ev] at S3
      exact L.nx B1 _ σ _ e1 (fun x z => by rw [upd_ne (fun e => (hdis a hMa).1 (by rw [← e]; exact z)), f1 x z]) (S3.less fun x z => .inl z) q
    · rcases List.mem_cons.mp hy with rfl | hy
      · show CellAt K B1 (upd H1 a _ a) _
        rw [upd_same]
        exact ⟨dx, _, rfl, fsa_put (c := .r D) rfl e3⟩
      · have hy' := List.mem_append.mp hy
        rw [upd_ne (old y hy')]
        rcases hy' with hy | hy
        · exact g1 y (List.mem_cons_of_mem _ hy)
        · exact d1 y hy
    · rw [List.map_cons, List.map_append, List.nodup_cons, List.mem_append, List.nodup_append]
      refine ⟨fun z => ?_, nd2, d2, fun x hx y hy e => ?_⟩
      · rcases z with z | z
        · exact nd1 z
        · exact (hdis a hMa).2 ((d3 a).mpr z)
      · subst e
        exact (hdis x ((g3 x).mpr (List.mem_cons_of_mem _ hx))).2 ((d3 x).mpr hy)
    · show (M x ∨ M1 x) ↔ _
      rw [List.map_cons, List.map_append, List.mem_cons, List.mem_append, g3 x, d3 x, List.map_cons, List.mem_cons]
      exact or_assoc
end
end Dl

/-! Rk5: list.count of texts. -/
namespace Rk
open PySem PySem.Spec PyProof PyProof.Rows L2
theorem reads_strs {h : Heap} : ∀ {us : List Value} {xs : List Str}, StrsAre us xs → ReadsAll h us (xs.map PyData.str) []
  | _, _, .nil => .nil
  | _, _, .cons x k t => .cons (.str x k) (reads_strs t)
theorem plainAll_strs : ∀ (xs : List Str), PyData.plainAll (xs.map PyData.str) = true
  | [] => rfl
  | x :: r => by
    show (PyData.plain (.str x) && PyData.plainAll (r.map PyData.str)) = true
    rw [plainAll_strs r]
    rfl
theorem count_strs (k : Str) : ∀ (xs : List Str), (xs.map PyData.str).countP (fun y => PyData.eqv y (.str k)) = xs.count k
  | [] => rfl
  | x :: r => by
    rw [List.map_cons, List.countP_cons, count_strs k r, List.count_cons]
    congr 1
def rCntS (K : PySem.W.Frag) : V → List V → Hp → VK → Prop := fun x xs H Q => ∃ (p : Addr) (ns : List Str) (k : Str), x = .ref p ∧ xs = [.str k] ∧ SqL K H p (ns.map V.str) ∧ Q (.int (ns.count k : Nat)) H
theorem mt_lcountS {X : Cx} (hu : X.A.units + 1 < cLine) : MtR X "list.count" (rCntS X.K) := by
  intro pins s σ H x xs v us Q I rx rxs h
  obtain ⟨p, ns, k, rfl, rfl, hs, q⟩ := h
  cases rx
  obtain ⟨u, rfl, ru⟩ := rxs.one
  obtain ⟨t, rfl⟩ := ru
  obtain ⟨its, rv, pl, hlen⟩ := I.list hs
  refine PySem.SeqAt.count_list_data pl.isList (reads_strs (Vals.strs (by rw [List.toList_toArray]; exact rv))) (.str k t) (plainAll_strs ns) rfl ?_ ?_
  · have : PyData.depth (.str k) = 0 := rfl
    rw [this, Nat.min_zero]
    exact hu
  · rw [count_strs]
    exact ⟨.int (ns.count k : Nat), H, I.tok _, ⟨s.toks, rfl⟩, q⟩
end Rk
namespace Kk
open PySem PySem.Spec PyProof.Rows L2
theorem mt_lcountS {X : Cx} {K : PySem.W.Frag} (hu : X.A.units + 1 < cLine) (h : X.K = K := by rfl) : MtR X "list.count" (Rk.rCntS K) := h ▸ Rk.mt_lcountS hu
end Kk

/-! Dl18: count of texts, a, b = x, y. -/
namespace Dl
open PySem PySem.Spec PyProof.Rows L2
open Evl (Ex)
section
variable {K : PySem.W.Frag} {w : World} {δ : List Slot} {te ta tb tc : TE} {tr : TA} {tt : TT} {t u : TS} {d : Dn} {Φ : Slot → List Slot → Prop}
theorem ev_countS (h : EvS K ta δ fun s δ1 => ∃ ns : List Str, den K δ1 s (.list (ns.map PyData.str)) ∧ EvS K te δ1 fun s2 δ2 => ∃ k : Str, den K δ2 s (.list (ns.map PyData.str)) ∧ s2 = .pu (.str k) ∧ Φ (.pu (.int ((ns.count k : Nat) : Int))) δ2) : EvS K (tBM K "list" (Rk.rCntS K) ta (tCons te tNil)) δ Φ := fun B H σ F Q S kk =>
  h B H σ F _ S fun v M s B1 H1 δ1 e1 f1 S1 w1 n1 ⟨ns, hd, p⟩ => by
    obtain ⟨b, xs, rfl, hs, ha⟩ := (den_dr S1 w1 hd).lst S1.bh
    refine ⟨.inl ⟨rfl, xs, hs⟩, p B1 H1 σ _ _ S1 fun v2 M2 s2 B2 H2 δ2 e2 f2 S2 w2 n2 ⟨k, hd2, es, q⟩ => ?_⟩
    subst es
    obtain ⟨b', xs', e, hs', ha'⟩ := (den_dr S2 (w1.step (δ2 := δ2) e2 fun a ha => f2 a (.inr ha)) hd2).lst S2.bh
    cases e
    have ex := dpa_strs_inv ha'
    subst ex
    exact ⟨b, ns, k, rfl, by rw [dp_str_inv w2.1], hs', kk _ (fun _ => False) (.pu (.int _)) B2 H2 δ2 (e1.trans e2) (fun a z => (f2 a (.inl z)).trans (f1 a z)) (S2.less fun a z => .inl (.inl (z.elim id False.elim))) ⟨.int _, fun _ z => z⟩ (fun _ z => z.elim) q⟩
theorem xs_par {i j : Nat} (h : EvDs K tr δ fun ds δ1 => ∃ x y, ds = [x, y] ∧ i < δ1.length ∧ j < δ1.length ∧ d.nx ((δ1.set i (.pu x)).set j (.pu y))) : ExS K (tPar i j tr) d δ := fun B H σ F D S L =>
  h B H σ F _ S fun vs ds B2 H2 δ1 e f S2 ha ⟨x, y, ed, hi, hj, q⟩ => by
    subst ed
    cases ha with
    | cons h1 t =>
      cases t with
      | cons h2 t =>
        cases t
        exact ⟨_, _, rfl, L.nx B2 H2 _ _ e f ((S2.put_pu h1 hi).put_pu h2 (by rw [List.length_set]; exact hj)) q⟩
end
end Dl

namespace Dl
open PySem PySem.Spec PyProof.Rows L2
section
variable {K : PySem.W.Frag} {ta tb : TE} {tt tu : TT} {δ : List Slot}
/-- `a and b`, both told outright: no case split -/
theorem ev_andQ {Φ : Slot → List Slot → Prop} (h : EvS K ta δ fun s δ1 => ∃ b c, s = .pu (.bool b) ∧ EvS K tb δ1 (fun s2 δ2 => s2 = .pu (.bool c) ∧ δ2 = δ1) ∧ Φ (.pu (.bool (b && c))) δ1) : EvS K (tAndV ta tb) δ Φ :=
  ev_andV (h.imp fun s δ1 ⟨b, c, hs, hb, q⟩ => ⟨b, hs, by
    cases b with
    | true =>
      rw [if_pos rfl]
      exact hb.imp fun s2 δ2 ⟨e1, e2⟩ => by rw [e1, e2]; exact q
    | false =>
      rw [if_neg Bool.false_ne_true]
      exact q⟩)
theorem et_orQ {Φ : Bool → List Slot → Prop} (h : EvT K tt δ fun b δ1 => ∃ c, EvT K tu δ1 (fun b2 δ2 => b2 = c ∧ δ2 = δ1) ∧ Φ (b || c) δ1) : EvT K (tOr tt tu) δ Φ :=
  et_or (h.imp fun b δ1 ⟨c, hb, q⟩ => by
    cases b with
    | true => exact (if_pos rfl : (if true = true then _ else _) = _) ▸ q
    | false =>
      rw [if_neg Bool.false_ne_true]
      exact hb.imp fun b2 δ2 ⟨e1, e2⟩ => by rw [e1, e2]; exact q)
theorem out3 {δ : List Slot} {a b c : Nat} {x y z : Slot} (i : Nat) (h : i ∉ [a, b, c]) : (((δ.set a x).set b y).set c z)[i]? = δ[i]? := by
  rw [List.getElem?_set_ne (fun e => h (by rw [← e]; simp)), List.getElem?_set_ne (fun e => h (by rw [← e]; simp)), List.getElem?_set_ne (fun e => h (by rw [← e]; simp))]
theorem tgl3 {n a b c : Nat} {x y z : PyData} {vs : List Nat} (h : a < n) (h2 : b < n) (h3 : c < n) (k : a ∈ vs) (k2 : b ∈ vs) (k3 : c ∈ vs) : ∀ p ∈ [(a, x), (b, y), (c, z)], p.1 < n ∧ p.1 ∈ vs := fun p hp => by
  rcases List.mem_cons.mp hp with rfl | hp
  · exact ⟨h, k⟩
  · rcases List.mem_cons.mp hp with rfl | hp
    · exact ⟨h2, k2⟩
    · rw [List.mem_singleton.mp hp]
      exact ⟨h3, k3⟩
end
end Dl

/-! Dl20: defs one of whose arguments is an owned list that they may change and that is theirs. -/
namespace Dl
open PySem PySem.Spec PyProof.Rows L2
open Evl (Ex)
/-- data, an owned list, data: a flat answer, nothing else changes -/
def spO (K : PySem.W.Frag) (n1 n2 : Nat) (pre : List PyData → List PyData → List PyData → Prop) (T : List PyData → List PyData → List PyData → PyData → Prop) : Sp := fun vs H Q _ =>
  ∃ (B : Hp) (as bs : List V) (p : Addr) (xs : List V) (d1 zs d2 : List PyData), vs = as ++ .ref p :: bs ∧ Ex B H ∧ B p = none ∧ H p = some (.lst xs) ∧ DpAll K B xs zs ∧ DpAll K B as d1 ∧ DpAll K B bs d2 ∧ d1.length = n1 ∧ d2.length = n2 ∧ pre d1 zs d2 ∧
    ∀ z H2, (∀ a o, a ≠ p → H a = some o → H2 a = some o) → flatD z = true → T d1 zs d2 z → Q (valD z) H2
theorem spO_len {K : PySem.W.Frag} {n1 n2 : Nat} {pre : List PyData → List PyData → List PyData → Prop} {T : List PyData → List PyData → List PyData → PyData → Prop} {vs : List V} {H : Hp} {Q : VK} {E : XK} (h : spO K n1 n2 pre T vs H Q E) : vs.length = n1 + n2 + 1 := by
  obtain ⟨B, as, bs, p, xs, d1, zs, d2, rfl, _, _, _, _, h1, h2, e1, e2, _⟩ := h
  rw [List.length_append, List.length_cons, dpa_len h1, dpa_len h2, e1, e2]
  omega
theorem aok_pu {K : PySem.W.Frag} {σ : L2.St} {δ : List Slot} {B H : Hp} : ∀ {ds : List PyData} {vs : List V} {M : Addr → Prop}, AOk K σ δ B H vs (ds.map .pu) M → DpAll K B vs ds
  | [], _, _, h => by cases h; exact .nil
  | d :: ds, _, _, h => by
    cases h with
    | cons h1 h2 h3 => exact .cons h1.1 (aok_pu h3)
theorem aok_mid {K : PySem.W.Frag} {σ : L2.St} {δ : List Slot} {B H : Hp} {zs d2 : List PyData} : ∀ {d1 : List PyData} {vs : List V} {M : Addr → Prop}, AOk K σ δ B H vs (d1.map .pu ++ .ow (RL K zs) :: d2.map .pu) M → ∃ (as bs : List V) (p : Addr) (xs : List V), vs = as ++ .ref p :: bs ∧ DpAll K B as d1 ∧ DpAll K B bs d2 ∧ H p = some (.lst xs) ∧ DpAll K B xs zs ∧ M p
  | [], _, _, h => by
    cases h with
    | cons h1 h2 h3 =>
      obtain ⟨p, xs, rfl, hp, hx, hM⟩ := h1
      exact ⟨[], _, p, xs, rfl, .nil, aok_pu h3, hp, hx, .inl ((hM p).mpr rfl)⟩
  | d :: d1, _, _, h => by
    cases h with
    | cons h1 h2 h3 =>
      obtain ⟨as, bs, p, xs, rfl, g1, g2, g3, g4, g5⟩ := aok_mid h3
      exact ⟨_ :: as, bs, p, xs, rfl, .cons h1.1 g1, g2, g3, g4, .inr g5⟩
section
variable {K : PySem.W.Frag} {w : World} {δ : List Slot} {te ta tb tc : TE} {tr : TA} {tt : TT} {t u : TS} {d : Dn} {Φ : Slot → List Slot → Prop} {n1 n2 : Nat} {pre : List PyData → List PyData → List PyData → Prop} {T : List PyData → List PyData → List PyData → PyData → Prop} {E : XK}
theorem ev_callO (h : EvA K tr δ fun ss δ1 => ∃ d1 zs d2, ss = d1.map .pu ++ .ow (RL K zs) :: d2.map .pu ∧ d1.length = n1 ∧ d2.length = n2 ∧ pre d1 zs d2 ∧ ∀ z, T d1 zs d2 z → Φ (.pu z) δ1) : EvS K (tCall (spO K n1 n2 pre T) [] E tr) δ Φ := fun B H σ F Q S k =>
  h B H σ F _ S fun vs M ss B2 H2 δ1 e f S2' w nn ⟨d1, zs, d2, es, e1, e2, hp, q⟩ => by
    subst es
    obtain ⟨as, bs, p, xs, rfl, g1, g2, g3, g4, g5⟩ := aok_mid w
    show spO K n1 n2 pre T (_ ++ []) H2 Q E
    rw [List.append_nil]
    have hbp : B2 p = none := S2'.fb p (.inr g5)
    refine ⟨B2, as, bs, p, xs, d1, zs, d2, rfl, S2'.bh, hbp, g3, g4, g1, g2, e1, e2, hp, fun z H3 k1 hz hT => ?_⟩
    have same : ∀ a, H2 a ≠ none → a ≠ p → H3 a = H2 a := fun a ha hn => by
      obtain ⟨o, ho⟩ := some_of_ne ha
      rw [ho]
      exact k1 a o hn ho
    have np : ∀ a, F a → a ≠ p := fun a ha e => nn p g5 (e ▸ ha)
    have eb : Ex B2 H3 := fun a o ho => k1 a o (fun e => by rw [e, hbp] at ho; cases ho) (S2'.bh a o ho)
    obtain ⟨ms, h1, h2, h3, h4⟩ := S2'.sl
    have S3 : Sd K B2 H3 σ δ1 F := by
      refine ⟨eb, S2'.len, fun a ha => S2'.fb a (.inl ha), fun a ha => by rw [same a (S2'.fl a (.inl ha)) (np a ha)]; exact S2'.fl a (.inl ha), ms, fun i s hs => ?_, h2, fun i a q z => h3 i a q (.inl z), h4⟩
      have q2 := h1 i s hs
      cases s with
      | non => exact q2
      | pu x => exact q2
      | ow R =>
        obtain ⟨u, e5, hP, hb⟩ := q2
        exact ⟨u, e5, R.loc hP (Ex.refl _) fun a ha => same a (R.live hP a ha) fun e => h3 i a ha (.inr (e ▸ g5)), hb⟩
      | al j => exact q2
    exact k _ (fun _ => False) (.pu z) B2 H3 δ1 e (fun a z => (same a (S2'.fl a (.inl z)) (np a z)).trans (f a z)) (S3.less fun a z => z.elim id False.elim) ⟨dp_flat hz, fun _ z => z⟩ (fun _ z => z.elim) (q z hT)
theorem sd_startO {B H : Hp} {as bs xs : List V} {p : Addr} {d1 zs d2 : List PyData} {N : List Str} (e : Ex B H) (hb : B p = none) (hp : H p = some (.lst xs)) (hx : DpAll K B xs zs) (h1 : DpAll K B as d1) (h2 : DpAll K B bs d2) : Sd K B H (L2.start N (as ++ .ref p :: bs)) (d1.map Slot.pu ++ .ow (RL K zs) :: (d2.map Slot.pu ++ List.replicate (N.length - (d1.length + d2.length + 1)) Slot.non)) (fun a => H a ≠ none ∧ B a = none ∧ a ≠ p) := by
  have l1 := dpa_len h1
  have l2 := dpa_len h2
  have est : L2.start N (as ++ .ref p :: bs) = as.map some ++ some (.ref p) :: (bs.map some ++ List.replicate (N.length - (d1.length + d2.length + 1)) none) := by
    unfold L2.start
    rw [List.map_append, List.map_cons, List.append_assoc, List.cons_append, List.length_append, List.length_cons, l1, l2]
    rfl
  rw [est]
  refine ⟨e, by simp [l1, l2], fun a z => z.2.1, fun a z => z.1, fun k a => k = d1.length ∧ a = p, fun k s hs => ?_, fun k j a z1 z2 => by rw [z1.1, z2.1], fun k a z f => f.2.2 z.2, fun k a z => by rw [z.1]; simp⟩
  by_cases c1 : k < d1.length
  · rw [List.getElem?_append_left (by rw [List.length_map]; exact c1), List.getElem?_map] at hs
    cases hd : d1[k]? with
    | none => rw [hd] at hs; cases hs
    | some x =>
      rw [hd] at hs
      cases hs
      obtain ⟨v, hv, hxx⟩ := dpa_get h1 hd
      rw [List.getElem?_append_left (by rw [List.length_map, l1]; exact c1), List.getElem?_map, hv]
      exact ⟨v, rfl, hxx, fun a z => by omega⟩
  · rw [List.getElem?_append_right (by rw [List.length_map]; omega), List.length_map] at hs
    rw [List.getElem?_append_right (by rw [List.length_map, l1]; omega), List.length_map, l1]
    cases hk : k - d1.length with
    | zero =>
      rw [hk] at hs
      cases hs
      have ek : k = d1.length := by omega
      refine ⟨.ref p, rfl, ⟨p, xs, rfl, hp, hx, fun a => ⟨fun z => z.2, fun z => ⟨ek, z⟩⟩⟩, fun a z => by rw [z.2]; exact hb⟩
    | succ m =>
      rw [hk, List.getElem?_cons_succ] at hs
      rw [List.getElem?_cons_succ]
      by_cases c2 : m < d2.length
      · rw [List.getElem?_append_left (by rw [List.length_map]; exact c2), List.getElem?_map] at hs
        cases hd : d2[m]? with
        | none => rw [hd] at hs; cases hs
        | some x =>
          rw [hd] at hs
          cases hs
          obtain ⟨v, hv, hxx⟩ := dpa_get h2 hd
          rw [List.getElem?_append_left (by rw [List.length_map, l2]; exact c2), List.getElem?_map, hv]
          exact ⟨v, rfl, hxx, fun a z => by omega⟩
      · rw [List.getElem?_append_right (by rw [List.length_map]; omega)] at hs
        rw [List.eq_of_mem_replicate (List.mem_of_getElem? hs)]
        exact fun a z => by omega
abbrev DnO (T : PyData → Prop) : Dn := { nx := fun _ => T .none, rt := fun s _ => ∃ z, s = .pu z ∧ flatD z = true ∧ T z }
theorem body_O {N : List Str} {vs : List V} {H : Hp} {Q : VK} (h : spO K n1 n2 pre T vs H Q E)
    (hx : ∀ d1 zs d2, d1.length = n1 → d2.length = n2 → pre d1 zs d2 → ExS K t (DnO (T d1 zs d2)) (d1.map Slot.pu ++ .ow (RL K zs) :: (d2.map Slot.pu ++ List.replicate (N.length - (d1.length + d2.length + 1)) Slot.non))) : t { nx := fun _ H' => Q .non H', rt := Q } (L2.start N vs) H := by
  obtain ⟨B, as, bs, p, xs, d1, zs, d2, rfl, eB, hb, hp, hxs, h1, h2, e1, e2, hpre, q⟩ := h
  have fin : ∀ B2 H2 σ2 δ2 F', Ex B B2 → (∀ a, (H a ≠ none ∧ B a = none ∧ a ≠ p) → H2 a = H a) → Sd K B2 H2 σ2 δ2 F' → ∀ a o, a ≠ p → H a = some o → H2 a = some o := fun B2 H2 σ2 δ2 F' e f S a o ha ho => by
    cases hba : B a with
    | none => rw [f a ⟨nn_of ho, hba, ha⟩]; exact ho
    | some o' =>
      have e3 := eB a o' hba
      rw [ho] at e3
      cases e3
      exact S.bh a o (e a o hba)
  refine hx d1 zs d2 e1 e2 hpre B H _ _ _ (sd_startO (N := N) eB hb hp hxs h1 h2) ⟨fun B2 H2 σ2 δ2 e f S hT => q .none H2 (fin B2 H2 σ2 δ2 _ e f S) rfl hT, fun _ _ _ _ _ _ _ z => z.elim, fun _ _ _ _ _ _ _ z => z.elim, fun v Mv s B2 H2 σ2 δ2 e f S w nF ⟨z, es, hz, hT⟩ => ?_⟩
  subst es
  rw [flat_val hz w.1]
  exact q z H2 (fin B2 H2 σ2 δ2 _ e f S) hz hT
theorem calO {P : Program} {mg : Str → Option Value} {base : Heap} {x : Str} {st : Stmt} {N ps : List Str} {k : Nat} (D : Df K mg x st ps) (S : FnScope N ps (defScope st)) (hn : ps.length = n1 + n2 + 1)
    (hbody : ∀ (f : Addr) (cdv : Value) (A : Around) (outer : List Env) (s : Shared) (H : Hp) (E : XK), Room k (A.deeper (envOfC x (defScope st) s.heap.objs.size f cdv)) →
      ∃ t, PSs (cxOf CX0 P w K mg base N x (defScope st) f cdv A outer s H E).nox (defBody st) t ∧ ∀ d1 zs d2, d1.length = n1 → d2.length = n2 → pre d1 zs d2 → ExS K t (DnO (T d1 zs d2)) (d1.map Slot.pu ++ .ow (RL K zs) :: (d2.map Slot.pu ++ List.replicate (N.length - (d1.length + d2.length + 1)) Slot.non))) : Cal P w K mg base (k + 1) x (spO K n1 n2 pre T) := by
  obtain ⟨f, fd, F, hm, hb⟩ := D.ex
  refine ⟨f, fd, ps, F.ok S (fun vs H Q E h => by rw [spO_len h, hn]) (fun cdv A outer s H vs Q E hr h => ?_), hm, F.kp, hb⟩
  obtain ⟨t, ht, hx⟩ := hbody f cdv A outer s H E hr
  exact ⟨t, ht, body_O h hx⟩
end
section
variable {K : PySem.W.Frag} {δ : List Slot} {te : TE} {Φ : Slot → List Slot → Prop}
/-- the list of draws at a name is told as draws from here on -/
theorem ev_dice {j : Nat} {xs : List Int} (hj : δ[j]? = some (.ow (RL K (xs.map PyData.int)))) (ok : DiceOk xs) (h : ∀ a, EvS K te (δ.set j (.ow (RDi a))) Φ) : EvS K te δ Φ := fun B H σ F Q S k => by
  obtain ⟨v, M, ev, ⟨p, ys, rfl, hp, ha, hM⟩, hb, hF, op⟩ := S.opn hj
  rw [dpa_ints_inv ha] at hp
  have q := op B H (some (.ref p)) (.ow (RDi p)) M (Ex.refl _) S.bh (fun _ _ h _ => h) (fun _ _ h => .inl h) ⟨_, rfl, ⟨rfl, ⟨xs, ok, hp⟩, hM⟩, hb⟩ (fun a z => .inl z)
  rw [set_self ev] at q
  exact h p B H σ F Q q k
end
end Dl

/-! Dl21: is, is not of bools. -/
namespace Dl
open PySem PySem.Spec PyProof.Rows L2
open Evl (Ex)
section
variable {K : PySem.W.Frag} {δ : List Slot} {ta tb : TE} {Φ : Slot → List Slot → Prop}
theorem ev_notB (h : EvS K ta δ fun s1 δ1 => EvS K tb δ1 fun s2 δ2 => ∃ a b : Bool, s1 = .pu (.bool a) ∧ s2 = .pu (.bool b) ∧ Φ (.pu (.bool (!decide (a = b)))) δ2) : EvS K (tOp rNotB ta tb) δ Φ :=
  ev_opP (h.imp fun s1 δ1 h1 => h1.imp fun s2 δ2 ⟨a, b, e1, e2, q⟩ => ⟨.bool a, .bool b, .bool (!decide (a = b)), .inl e1, .inl e2, opP_flat rfl fun B H u v Q e d1 d2 k => ⟨a, b, dr_bl d1, dr_bl d2, k⟩, q⟩)
theorem ev_isB (h : EvS K ta δ fun s1 δ1 => EvS K tb δ1 fun s2 δ2 => ∃ a b : Bool, s1 = .pu (.bool a) ∧ s2 = .pu (.bool b) ∧ Φ (.pu (.bool (decide (a = b)))) δ2) : EvS K (tOp rIsB ta tb) δ Φ :=
  ev_opP (h.imp fun s1 δ1 h1 => h1.imp fun s2 δ2 ⟨a, b, e1, e2, q⟩ => ⟨.bool a, .bool b, .bool (decide (a = b)), .inl e1, .inl e2, opP_flat rfl fun B H u v Q e d1 d2 k => ⟨a, b, dr_bl d1, dr_bl d2, k⟩, q⟩)
end
end Dl

/-! Dl22: lists of things that are owned with them; a part in focus; comprehensions over references whose body changes what is owned. -/
namespace Dl
open PySem PySem.Spec PyProof.Rows L2
open Evl (Ex)
section
variable {K : PySem.W.Frag} {w : World} {δ : List Slot} {te ta tb tc : TE} {tr : TA} {tt : TT} {t u : TS} {d : Dn} {Φ : Slot → List Slot → Prop}
/-- what several temporaries own -/
theorem aok_blocks {σ : L2.St} {B H : Hp} : ∀ {bs : List (Addr × Cells)} {vs : List V} {M : Addr → Prop}, AOk K σ δ B H vs (bs.map fun b => .ow (RH K b.1 b.2)) M → vs = (bs.map (·.1)).map V.ref ∧ (∀ y ∈ (bs.map (·.2)).flatten, CellAt K B (H y.1) y.2) ∧ ((bs.map (·.2)).flatten.map (·.1)).Nodup ∧ ∀ a, M a ↔ a ∈ (bs.map (·.2)).flatten.map (·.1)
  | [], _, _, h => by cases h; exact ⟨rfl, (fun _ h => nomatch h), List.nodup_nil, fun a => ⟨fun z => z.elim, fun z => nomatch z⟩⟩
  | b :: bs, _, _, h => by
    cases h with
    | cons h1 h2 h3 =>
      obtain ⟨rfl, g1, g2, g3⟩ := h1
      obtain ⟨rfl, k1, k2, k3⟩ := aok_blocks h3
      refine ⟨rfl, fun y hy => ?_, ?_, fun a => ?_⟩
      · rw [List.map_cons, List.flatten_cons] at hy
        exact (List.mem_append.mp hy).elim (g1 y) (k1 y)
      · rw [List.map_cons, List.flatten_cons, List.map_append, List.nodup_append]
        exact ⟨g2, k2, fun x hx y hy e => h2 x ((g3 x).mpr hx) ((k3 x).mpr (e ▸ hy))⟩
      · rw [List.map_cons, List.flatten_cons, List.map_append, List.mem_append, ← g3 a, ← k3 a]
/-- [a, b, ..] of things that are owned -/
theorem ev_lstB (h : EvA K tr δ fun ss δ1 => ∃ bs : List (Addr × Cells), ss = (bs.map fun b => .ow (RH K b.1 b.2)) ∧ bs.length ≤ 100000 ∧ ∀ D, Φ (.ow (RH K D (blocks D bs))) δ1) : EvS K (tLst tr) δ Φ := fun B H σ F Q S k =>
  h B H σ F _ S fun vs M ss B2 H2 δ1 e f S2 w n ⟨bs, es, hl, q⟩ => by
    subst es
    obtain ⟨rfl, k1, k2, k3⟩ := aok_blocks w
    refine ⟨Evl.sz_of (by rw [List.length_map, List.length_map]; exact hl), fun D hD => ?_⟩
    have nD : ∀ a, M a → a ≠ D := fun a ha z => S2.fl a (.inr ha) (by rw [z]; exact hD)
    have S3 := sd_own (o := .lst ((bs.map (·.1)).map V.ref)) S2 hD
    refine k (.ref D) (fun a => M a ∨ a = D) (.ow (RH K D (blocks D bs))) B2 _ δ1 e (fun a z => ?_) (S3.less fun a z => ?_) ⟨rfl, fun y hy => ?_, ?_, fun a => ?_⟩ (fun a z hf => ?_) (q D)
    · rw [upd_ne (fun z2 => S2.fl a (.inl z) (by rw [z2]; exact hD)), f a z]
    · rcases z with z | z | z
      · exact .inl (.inl z)
      · exact .inl (.inr z)
      · exact .inr z
    · rcases List.mem_cons.mp hy with rfl | hy
      · exact ⟨_, upd_same, cva_refs' _⟩
      · have hm : M y.1 := (k3 y.1).mpr (List.mem_map.mpr ⟨y, hy, rfl⟩)
        rw [upd_ne (nD _ hm)]
        exact k1 y hy
    · show (D :: ((bs.map (·.2)).flatten).map (·.1)).Nodup
      exact List.nodup_cons.mpr ⟨fun z => nD D ((k3 D).mpr z) rfl, k2⟩
    · show _ ↔ a ∈ D :: ((bs.map (·.2)).flatten).map (·.1)
      rw [List.mem_cons, ← k3 a]
      exact ⟨fun z => z.elim .inr .inl, fun z => z.elim .inr .inl⟩
    · rcases z with z | z
      · exact n a z hf
      · exact S2.fl a (.inl hf) (by rw [z]; exact hD)
/-- some cells in focus -/
theorem foc_cells {I : Type} {adr : I → Addr} {R : I → Res} {cell : I → Cells} {root : Addr} {pre post : Cells} (hR : ∀ i, R i = RH K (adr i) (cell i)) (i : I) : Foc adr (fun i' => RH K root (pre ++ (cell i' ++ post))) R i := fun v B H M h => by
  have h' : (RH K root (pre ++ (cell i ++ post))).P v B H M := h
  have hlive := (RH K root (pre ++ (cell i ++ post))).live h'
  obtain ⟨h0, h1, h2, h3⟩ := h'
  rw [List.map_append, List.map_append] at h2 h3
  obtain ⟨n1, n2, n3⟩ := List.nodup_append.mp h2
  obtain ⟨n4, n5, n6⟩ := List.nodup_append.mp n2
  refine ⟨fun c => c ∈ (cell i).map (·.1), ?_, fun c hc => (h3 c).mpr (List.mem_append_right _ (List.mem_append_left _ hc)), fun i' B2 H2 M1' ea e1 k hP hm => ?_⟩
  · rw [hR i]
    exact ⟨rfl, fun y hy => h1 y (List.mem_append_right _ (List.mem_append_left _ hy)), n4, fun c => Iff.rfl⟩
  · rw [hR i'] at hP
    obtain ⟨_, g1, g2, g3⟩ := hP
    have hpre : ∀ y ∈ pre, M y.1 ∧ y.1 ∉ (cell i).map (·.1) := fun y hy => ⟨(h3 _).mpr (List.mem_append_left _ (List.mem_map.mpr ⟨y, hy, rfl⟩)), fun z => n3 y.1 (List.mem_map.mpr ⟨y, hy, rfl⟩) y.1 (List.mem_append_left _ z) rfl⟩
    have hpost : ∀ y ∈ post, M y.1 ∧ y.1 ∉ (cell i).map (·.1) := fun y hy => ⟨(h3 _).mpr (List.mem_append_right _ (List.mem_append_right _ (List.mem_map.mpr ⟨y, hy, rfl⟩))), fun z => n6 y.1 z y.1 (List.mem_map.mpr ⟨y, hy, rfl⟩) rfl⟩
    have new : ∀ c, c ∈ (cell i').map (·.1) → c ∈ (cell i).map (·.1) ∨ H c = none := fun c hc => hm c ((g3 c).mpr hc)
    refine ⟨h0, fun y hy => ?_, ?_, fun c => ?_⟩
    · rcases List.mem_append.mp hy with hy | hy
      · rw [k y.1 (hpre y hy).1 (hpre y hy).2]
        exact cell_mono e1 (h1 y (List.mem_append_left _ hy))
      · rcases List.mem_append.mp hy with hy | hy
        · exact g1 y hy
        · rw [k y.1 (hpost y hy).1 (hpost y hy).2]
          exact cell_mono e1 (h1 y (List.mem_append_right _ (List.mem_append_right _ hy)))
    · rw [List.map_append, List.map_append, List.nodup_append, List.nodup_append]
      refine ⟨n1, ⟨g2, n5, fun x hx y hy e => ?_⟩, fun x hx y hy e => ?_⟩
      · subst e
        obtain ⟨z, hz, rfl⟩ := List.mem_map.mp hy
        rcases new _ hx with q | q
        · exact (hpost z hz).2 q
        · exact hlive _ (hpost z hz).1 q
      · subst e
        obtain ⟨z, hz, rfl⟩ := List.mem_map.mp hx
        rcases List.mem_append.mp hy with hy | hy
        · rcases new _ hy with q | q
          · exact (hpre z hz).2 q
          · exact hlive _ (hpre z hz).1 q
        · exact n3 z.1 hx z.1 (List.mem_append_right _ hy) rfl
    · rw [List.map_append, List.map_append, List.mem_append, List.mem_append]
      constructor
      · rintro (⟨z, z2⟩ | z)
        · rcases List.mem_append.mp ((h3 c).mp z) with y | y
          · exact .inl y
          · rcases List.mem_append.mp y with y | y
            · exact absurd y z2
            · exact .inr (.inr y)
        · exact .inr (.inl ((g3 c).mp z))
      · rintro (z | z | z)
        · obtain ⟨y, hy, rfl⟩ := List.mem_map.mp z
          exact .inl (hpre y hy)
        · exact .inr ((g3 c).mpr z)
        · obtain ⟨y, hy, rfl⟩ := List.mem_map.mp z
          exact .inl (hpost y hy)
/-- xs[i], xs at a name a list of references -/
theorem ev_ixA {i : Nat} {k : Int} {R : Res} {b a : Addr} {as : List Addr} (hi : δ[i]? = some (.ow R)) (hat : IsAt R b) (hs : ShowsR R b as) (ha : atI as k = some a) (q : Φ (.ow (RRef a)) δ) : EvS K (tOp (rIxL K) (tVar i) (tC (.int k))) δ Φ := fun B H σ F Q S kk => by
  obtain ⟨v, M, ev, hP, _⟩ := S.opn hi
  obtain rfl := hat _ _ _ _ hP
  have hb := hs _ _ _ _ hP
  have hx : atI (as.map V.ref) k = some (V.ref a) := by
    unfold atI at ha ⊢
    rw [List.length_map]
    generalize ixN as.length k = o at ha
    cases o with
    | none => cases ha
    | some j =>
      have ha : as[j]? = some a := ha
      show (as.map V.ref)[j]? = _
      rw [List.getElem?_map, ha]
      rfl
  exact ⟨_, ev, b, _, k, _, rfl, rfl, SqL.of hb, hx, kk _ (fun _ => False) (.ow (RRef a)) B H δ (Ex.refl _) (fun _ _ => rfl) (S.less fun a z => z.elim id False.elim) ⟨rfl, fun _ z => z⟩ (fun _ z => z.elim) q⟩
/-- xs[lo:hi] of references -/
def cutA (as : List Addr) (lo hi : Option Int) : List Addr := (as.drop (HT.sIx as.length 0 lo)).take (HT.sIx as.length as.length hi - HT.sIx as.length 0 lo)
theorem ev_slA {tl th : TO} {i : Nat} (h0 : ∃ R b, δ[i]? = some (.ow R) ∧ IsAt R b) (h : EvO K tl δ fun lo δ2 => EvO K th δ2 fun hi δ3 => ∃ R b as, δ3[i]? = some (.ow R) ∧ IsAt R b ∧ ShowsR R b as ∧ ∀ p, Φ (.ow (RH K p [(p, .lst ((cutA as lo hi).map .r))])) δ3) : EvS K (tSl (rSlL K) (tVar i) tl th) δ Φ := fun B H σ F Q S kk => by
  obtain ⟨R0, b0, hi0, hat0⟩ := h0
  obtain ⟨v, M, ev, hP, _⟩ := S.opn hi0
  obtain rfl := hat0 _ _ _ _ hP
  refine ⟨_, ev, h B H σ F _ S fun lo B2 H2 δ2 e2 f2 S2 p2 => p2 B2 H2 σ F _ S2 fun hi B3 H3 δ3 e3 f3 S3 ⟨R, b, as, hi3, hat, hs, q⟩ => ?_⟩
  obtain ⟨v', M', ev', hP', _⟩ := S3.opn hi3
  obtain rfl := hat _ _ _ _ hP'
  rw [ev] at ev'
  cases ev'
  refine ⟨_, _, rfl, SqL.of (hs _ _ _ _ hP'), fun p hp => ?_⟩
  have ec : cutV (as.map V.ref) lo hi = (cutA as lo hi).map V.ref := by
    unfold cutV cutA
    rw [List.length_map, ← List.map_drop, ← List.map_take]
  rw [ec]
  refine kk (.ref p) (fun a => a = p) (.ow (RH K p _)) B3 _ δ3 (e2.trans e3) (fun a ha => ?_) (sd_own S3 hp) ⟨rfl, fun y hy => ?_, by simp, fun a => by simp⟩ (fun a ha f => ?_) (q p)
  · rw [upd_ne (fun z => S3.fl a ha (by rw [z]; exact hp)), f3 a ha, f2 a ha]
  · rw [List.mem_singleton.mp hy]
    exact ⟨_, upd_same, cva_refs' _⟩
  · rw [ha] at f; exact S3.fl p f hp
theorem set_same_get {α : Type} {l : List α} {j : Nat} {x y : α} (h : l[j]? = some y) : (l.set j x).set j y = l := by
  rw [List.set_set]
  apply List.ext_getElem?
  intro k
  by_cases e : k = j
  · subst e
    rw [h, List.getElem?_set_self (List.getElem?_eq_some_iff.mp h).1]
  · rw [List.getElem?_set_ne (Ne.symm e)]
/-- [e for x in references ..], the body may change what is owned -/
theorem ev_lcG {j : Nat} (h : EvS K ta δ fun s δ1 => ∃ (p : Addr) (as : List Addr), j < δ1.length ∧ ∃ Pv : Nat → List PyData → List Slot → Prop, (s = .ow (RH K p [(p, .lst (as.map .r))]) ∨ ((∃ i R, s = .al i ∧ δ1[i]? = some (.ow R) ∧ IsAt R p) ∧ ∀ i acc δ', Pv i acc δ' → ∃ (k : Nat) (R : Res), δ'[k]? = some (.ow R) ∧ ShowsR R p as)) ∧
    (∀ i acc δ', Pv i acc δ' → δ'.length = δ1.length ∧ Junk (δ'.getD j .non)) ∧ Pv 0 [] δ1 ∧
    (∀ i a acc δ', as[i]? = some a → Pv i acc δ' → EvD K te (δ'.set j (.ow (RRef a))) fun y δ2 => ∃ δ3, δ2 = δ3.set j (.ow (RRef a)) ∧ δ3[j]? = δ'[j]? ∧ acc.length < 100000 ∧ Pv (i + 1) (acc ++ [y]) δ3) ∧
    ∀ acc δ', Pv as.length acc δ' → Φ (.ow (RL K acc)) δ') : EvS K (tLc (iList K ta) (gName j) tYes te [j]) δ Φ := fun B H σ F Q S kk =>
  h B H σ F _ S fun v M s B2 H2 δ1 e f S2 w nF0 ⟨p, as, hj, Pv, hsrc, hlen, h0, hs, hd⟩ => by
    -- where the references stand
    have src : v = .ref p ∧ ∀ i acc δ' B' H', Pv i acc δ' → (∀ a, F a ∨ M a → H' a = H2 a) → Sd K B' H' σ δ' (fun a => F a ∨ M a) → H' p = some (.lst (as.map V.ref)) := by
      rcases hsrc with es | ⟨⟨i0, R0, es, h0', hat⟩, hsh⟩
      · subst es
        obtain ⟨rfl, g1, _, g3⟩ := w
        refine ⟨rfl, fun i acc δ' B' H' _ k _ => ?_⟩
        obtain ⟨vs, q1, q2⟩ := g1 (p, .lst (as.map .r)) (List.mem_singleton.mpr rfl)
        rw [k p (.inr ((g3 p).mpr (by simp)))]
        rw [cva_refs q2] at q1
        exact q1
      · subst es
        obtain ⟨v', M', ev, hP, _⟩ := S2.opn h0'
        obtain rfl := hat _ _ _ _ hP
        rw [w.1] at ev
        cases ev
        refine ⟨rfl, fun i acc δ' B' H' pv _ S' => ?_⟩
        obtain ⟨k, R, hk, sh⟩ := hsh i acc δ' pv
        obtain ⟨v2, M2, ev2, hP2, _⟩ := S'.opn hk
        exact sh _ _ _ _ hP2
    obtain ⟨rfl, look⟩ := src
    refine ⟨p, rfl, ⟨_, SqL.of (look 0 [] δ1 B2 H2 h0 (fun _ _ => rfl) S2)⟩, fun D hD => ?_⟩
    have nF : ∀ a, F a ∨ M a → a ≠ D := fun a z e => S2.fl a z (by rw [e]; exact hD)
    let Inv := fun (i : Nat) (H' : Hp) => ∃ B' δ' xs acc, Ex B2 B' ∧ (∀ a, F a ∨ M a → H' a = H2 a) ∧ Sd K B' H' σ δ' (fun a => (F a ∨ M a) ∨ a = D) ∧ H' D = some (.lst xs) ∧ DpAll K B' xs acc ∧ Pv i acc δ'
    refine ⟨fun i m H' => m = as.length - i ∧ i ≤ as.length ∧ Inv i H', ⟨as.length, rfl, Nat.zero_le _, B2, δ1, [], [], Ex.refl _, fun a z => upd_ne (nF a z), sd_own S2 hD, upd_same, .nil, h0⟩, ?_⟩
    rintro i m H' ⟨rfl, hi, B', δ', xs, acc, e', f', S', hx, ha, pv⟩
    have hl' := look i acc δ' B' H' pv f' (S'.less fun a z => .inl z)
    by_cases hlt : i < as.length
    · have hw : (as.map V.ref)[i]? = some (.ref as[i]) := by rw [List.getElem?_map, List.getElem?_eq_getElem hlt]; rfl
      refine .inr ⟨⟨_, _, SqL.of hl', hw⟩, Inv (i + 1), fun H3 q => ⟨as.length - (i + 1), by omega, rfl, hlt, q⟩, fun x H3 hy => ?_⟩
      obtain ⟨e1, e2⟩ := hy
      subst e1
      have e3 := (e2 _ (SqL.of hl')).symm.trans hw
      cases e3
      obtain ⟨hl2, hjk⟩ := hlen i acc δ' pv
      have hjl : j < δ'.length := by rw [hl2]; exact hj
      have hσl := S'.len
      refine ⟨?_, ?_⟩
      · exact wipe_ext (by rw [List.length_set, wipe_length]) fun k hk => by rw [List.getElem?_set_ne (fun z => hk (by rw [z]; exact List.mem_singleton.mpr rfl)), wipe_out hk]
      · show if true = true then te ((wipe σ [j]).set j (some (.ref as[i]))) H3 fun y H4 => ∃ acc, H4 D = some (HO.lst acc) ∧ acc.length < sizeLine ∧ Inv (i + 1) (upd H4 D (HO.lst (acc ++ [y]))) else Inv (i + 1) H3
        rw [if_pos rfl]
        have S3 : Sd K B' H3 ((wipe σ [j]).set j (some (.ref as[i]))) (δ'.set j (.ow (RRef as[i]))) (fun a => (F a ∨ M a) ∨ a = D) := by
          have q := (S'.wiped [j]).put (i := j) (x := some (.ref as[i])) (s := .ow (RRef as[i])) (M := fun _ => False) ⟨_, rfl, ⟨rfl, fun _ z => z⟩, fun _ z => z.elim⟩ (fun _ _ _ _ _ z => z.elim) (fun _ z => z.elim) (by rw [wipeD_len]; exact hjl)
          have e4 : (wipeD δ' [j]).set j (.ow (RRef as[i])) = δ'.set j (.ow (RRef as[i])) := by
            show (δ'.set j .non).set j _ = _
            rw [List.set_set]
          rw [e4] at q
          exact q
        refine hs i as[i] acc δ' (List.getElem?_eq_getElem hlt) pv B' H3 _ _ _ S3 fun y yd B4 H4 δ4 e4 f4 S4 hyd ⟨δ3, ed, ej, hacc, pn⟩ => ?_
        subst ed
        have hx4 : H4 D = some (.lst xs) := by rw [f4 D (.inr rfl)]; exact hx
        obtain ⟨hl3, hjk3⟩ := hlen (i + 1) _ δ3 pn
        have hBD : B4 D = none := S4.fb D (.inr rfl)
        have jl3 : j < δ3.length := by rw [hl3]; exact hj
        -- the block's name is as it was
        have S5 : Sd K B4 H4 σ δ3 (fun a => (F a ∨ M a) ∨ a = D) := by
          obtain ⟨ms, h1, h2, h3, h4⟩ := S'.sl
          obtain ⟨ms2, k1, k2, k3, k4⟩ := S4.sl
          refine ⟨S4.bh, by rw [hσl, hl2, hl3], S4.fb, S4.fl, fun k a => k ≠ j ∧ ms2 k a, fun k s hk => ?_, fun k l a q1 q2 => k2 k l a q1.2 q2.2, fun k a q => k3 k a q.2, fun k a q => by have := k4 k a q.2; rw [List.length_set] at this; exact this⟩
          by_cases ek : k = j
          · subst ek
            have hk' : δ'[k]? = some s := by rw [← ej]; exact hk
            have q := h1 k s hk'
            rw [List.getD_eq_getElem?_getD, hk'] at hjk
            rcases hjk with z | ⟨d, z⟩
            · rw [show s = .non from z]
              exact fun a z => z.1 rfl
            · have z : s = .pu d := z
              subst z
              obtain ⟨v, ev, hd, _⟩ := q
              exact ⟨v, ev, dp_mono e4 _ _ hd, fun a z => z.1 rfl⟩
          · have q := k1 k s (by rw [List.getElem?_set_ne (Ne.symm ek)]; exact hk)
            rw [List.getElem?_set_ne (Ne.symm ek), wipe_out (fun z => ek (List.mem_singleton.mp z))] at q
            have eM : (fun a => k ≠ j ∧ ms2 k a) = ms2 k := funext fun a => propext ⟨fun z => z.2, fun z => ⟨ek, z⟩⟩
            show SlotIn K B4 H4 σ[k]? (fun a => k ≠ j ∧ ms2 k a) s
            rw [eM]
            exact q
        refine ⟨xs, hx4, Evl.sz_lt (by rw [dpa_len ha]; exact hacc), B4, δ3, xs ++ [y], acc ++ [yd], e'.trans e4, fun a z => ?_, ?_, upd_same, dpa_append (dpa_mono e4 _ _ ha) (dpa_one hyd), pn⟩
        · rw [upd_ne (nF a z), f4 a (.inl z), f' a z]
        · obtain ⟨ms, h1, h2, h3, h4⟩ := S5.sl
          refine ⟨fun a u ha' => ?_, S5.len, S5.fb, fun a z => ?_, ms, fun k s hk => ?_, h2, h3, h4⟩
          · rw [upd_ne (fun z => by rw [z, hBD] at ha'; cases ha')]
            exact S5.bh a u ha'
          · by_cases e5 : a = D
            · rw [e5, upd_same]; exact fun z => nomatch z
            · rw [upd_ne e5]; exact S5.fl a z
          · have q := h1 k s hk
            cases s with
            | non => exact q
            | pu x => exact q
            | ow R =>
              obtain ⟨v, ev, hP, hb'⟩ := q
              exact ⟨v, ev, R.loc hP (Ex.refl _) fun a z => upd_ne fun e5 => h3 k a z (.inr e5), hb'⟩
            | al _ => exact q
    · have e1 : i = as.length := by omega
      subst e1
      refine .inl ⟨⟨_, SqL.of hl', by rw [List.length_map]; exact Nat.le_refl _⟩, ?_⟩
      exact kk (.ref D) (fun a => a = D) (.ow (RL K acc)) B' H' δ' (e.trans e') (fun a z => (f' a (.inl z)).trans (f a z)) (S'.less fun a z => z.elim (fun z => .inl (.inl z)) .inr) ⟨D, xs, rfl, hx, ha, fun _ => Iff.rfl⟩ (fun a z z2 => nF a (.inl z2) z) (hd acc δ' pv)
end
end Dl

/-! Rk6: max(d.values()), a dict of ints. -/
namespace Rk
open PySem PySem.Spec PyProof PyProof.Rows L2
/-- the greatest value of a dict of ints that has one -/
def tMaxV (td : TE) : TE := fun σ H Q => td σ H fun x H' => ∃ (d : Addr) (kv : List (Key × V)) (ns : List Int), x = .ref d ∧ H' d = some (.dK kv) ∧ kv.map Prod.snd = ns.map V.int ∧ 0 < ns.length ∧ ∀ g, g ∈ ns → (∀ n ∈ ns, n ≤ g) → Q (.int g) H'
variable {X : Cx} {eo : Expr} {pf pc pa pm : Pos} {td : TE}
theorem pe_maxV (calm : X.calm = true) (glob : Gl X "max") (own : X.mg "max" = none) (he : PE X eo td) (base : attributeBase eo "values" X.env (eval eo X.env) = eval eo X.env := by rfl) (same : (pa.endLine == pm.line) = true := by rfl)
    (plain : starEach [Expr.Call (.Attribute eo "values" pa) [] [] pm] X.env = [(false, eval (Expr.Call (.Attribute eo "values" pa) [] [] pm) X.env)] := by rfl) : PE X (.Call (.Name "max" pf) [.Call (.Attribute eo "values" pa) [] [] pm] [] pc) (tMaxV td) := by
  refine ⟨fun pins st σ H Q inv h => ?_⟩
  refine wpAny_Call_Name_kw (ld_blt inv glob own (u := .builtin "max") (by first | rfl | decide +kernel) ?goOn (by first | decide +kernel | decide) (by first | decide +kernel | decide))
  case goOn =>
    rw [plain]
    refine PySem.callWith_builtin1 (wpAny_Call_method0_late base same (thn (he.run pins st σ H _ inv h) fun val st' got => ?_))
    obtain ⟨x, G, inv', rx, d, kv, ns, rfl, hd, hns, hpos, ask⟩ := got
    cases (show val = Value.ref d from rx)
    obtain ⟨_, notSys, vals, pairs, isDict⟩ := dk_of inv'.hok hd
    obtain ⟨ep, at_⟩ := isDict.dictAt
    obtain ⟨ob, es, hob, cls, _⟩ := id at_
    refine ⟨"dict", "dict.values", F.plainAttrs_dict, F.slot_dict_values, F.type_dict_values, ⟨ob, hob, cls.1⟩, fun c ec => by cases ec; exact ⟨ob, hob, cls.2.1⟩, Calls.callWith_builtin rfl (PySem.evalArgs_none ?_)⟩
    refine call_meetsIn F.slot_dict_values ⟨ob, hob, cls.1⟩ F.entry_dict_values (F.args_dict_values_1 _) (meets_dict_values (mixKind X.prog X.w) d notSys) ⟨⟨vals, isDict⟩, ?_⟩
    -- the view stands at the next address
    generalize hview : st'.heap.push { cls := .type "dict_values", data := .fields #[.ref d] } = heap1
    have grow : ∀ c o, st'.heap.get? c = some o → heap1.get? c = some o := fun c o hc => hview ▸ Heap.get?_push_of_some _ hc
    have at1 : heap1.DictAt (mixKind X.prog X.w) d vals ep := at_.keep grow
    have size1 : heap1.objs.size = st'.heap.objs.size + 1 := hview ▸ Heap.size_push _ _
    have count : vals.length = ns.length := by
      have := congrArg List.length hns
      rw [List.length_map, List.length_map, KV.length pairs] at this
      exact this
    have item : ∀ (i : Nat) (u : Value), (∃ k, vals[i]? = some (k, u)) → ∃ t, u = Value.int (ns.getD i 0) t := fun i u hk => by
      obtain ⟨k, hk⟩ := hk
      obtain ⟨y, hy, ry⟩ := KV.at' pairs hk
      have hm : (kv.map Prod.snd)[i]? = some y := by rw [List.getElem?_map, hy]; rfl
      rw [hns, List.getElem?_map] at hm
      cases hn : ns[i]? with
      | none => rw [hn] at hm; cases hm
      | some z =>
        rw [hn] at hm
        cases hm
        obtain ⟨t, et⟩ := ry
        exact ⟨t, by rw [et, List.getD_eq_getElem?_getD, hn]; rfl⟩
    have isView : heap1.IsValuesView st'.heap.objs.size d := hview ▸ ⟨_, Heap.get?_push_size _ rfl, rfl, rfl⟩
    have dlt : d < st'.heap.objs.size := Heap.lt_size hob
    refine call_max_walk (wpAny_pyIter_values (v := st'.heap.objs.size) (d := d) isView at1 ?_)
    refine ⟨_, _, _, _, _, _, _, rfl, Walks.dictValues (knd := mixKind X.prog X.w) (A := X.A.in1) (inv'.ok.hd calm) heap1.objs.size d (by rw [size1]; exact Nat.ne_of_lt (Nat.lt_succ_of_lt dlt)) vals ep, ⟨⟨_, Heap.get?_push_size _ rfl, rfl, rfl⟩, at1.keep fun c o hc => Heap.get?_push_of_some _ hc⟩, fun c hc => ?_, by omega, CmpOf.ints_gt (fun i => ns.getD i 0) item, fun u heap2 toks hu keep => ?_⟩
    · show c < (heap1.push _).objs.size
      rw [Heap.size_push]
      rcases List.mem_cons.mp hc with rfl | hc
      · exact Nat.lt_succ_self _
      · cases List.mem_singleton.mp hc
        exact Nat.lt_succ_of_lt (by rw [size1]; exact Nat.lt_succ_of_lt dlt)
    · obtain ⟨t, rfl⟩ := item _ u hu
      obtain ⟨best1, best2⟩ := argBest_gt (fun i => ns.getD i 0) (vals.length - 1)
      have inn : argBest (fun i j => decide (ns.getD i 0 > ns.getD j 0)) (vals.length - 1) < ns.length := by omega
      refine ⟨.int _, G, inv'.kept (t' := toks) fun c o hc => keep c o (fun hmem => ?_) (Heap.get?_push_of_some _ (grow c o hc)), ⟨t, rfl⟩, ask _ ?_ fun n hn => ?_⟩
      · have isIt := List.mem_singleton.mp hmem
        have below := Heap.lt_size hc
        rw [isIt, size1] at below
        exact Nat.lt_irrefl _ (Nat.lt_trans (Nat.lt_succ_self _) below)
      · rw [List.getD_eq_getElem?_getD, List.getElem?_eq_getElem inn]
        exact List.getElem_mem inn
      · obtain ⟨i, hi, rfl⟩ := List.mem_iff_getElem.mp hn
        have below := best2 i (by omega)
        have here : ns.getD i 0 = ns[i] := by rw [List.getD_eq_getElem?_getD, List.getElem?_eq_getElem hi]; rfl
        rw [← here]
        exact below
end Rk
namespace Kk
open PySem PySem.Spec PyProof.Rows L2
end Kk
namespace Dl
open PySem PySem.Spec PyProof.Rows L2
open Evl (Ex)
section
variable {K : PySem.W.Frag} {δ : List Slot} {Φ : Slot → List Slot → Prop}
theorem kva_ints {B : Hp} : ∀ {xs : List (Key × V)} {kvs : List (Int × PyData)} {ns : List Int}, KvAll K B xs kvs → kvs.map Prod.snd = ns.map PyData.int → xs.map Prod.snd = ns.map V.int
  | _, _, [], .nil, _ => rfl
  | _, _, n :: ns, .cons h t, e => by
    rw [List.map_cons, List.map_cons] at e
    obtain ⟨e1, e2⟩ := List.cons.inj e
    have e1 : _ = PyData.int n := e1
    subst e1
    rw [List.map_cons, List.map_cons, kva_ints t e2, dp_int_inv h]
  | _, _, [], .cons _ _, e => by cases e
  | _, _, _ :: _, .nil, e => by cases e
/-- max(d.values()), d at a name -/
theorem ev_maxV {j : Nat} (h : ∃ (kvs : List (Int × PyData)) (ns : List Int), δ[j]? = some (.ow (RDk K kvs)) ∧ kvs.map Prod.snd = ns.map PyData.int ∧ 0 < ns.length ∧ ∀ g, g ∈ ns → (∀ n ∈ ns, n ≤ g) → Φ (.pu (.int g)) δ) : EvS K (Rk.tMaxV (tVar j)) δ Φ := fun B H σ F Q S k => by
  obtain ⟨kvs, ns, hj, hns, hpos, q⟩ := h
  obtain ⟨p, xs, ev, hp, ha⟩ := dk_at S hj
  exact ⟨_, ev, p, xs, ns, rfl, hp, kva_ints ha hns, hpos, fun g g1 g2 => k _ (fun _ => False) (.pu (.int g)) B H δ (Ex.refl _) (fun _ _ => rfl) (S.less fun a z => z.elim id False.elim) ⟨.int _, fun _ z => z⟩ (fun _ z => z.elim) (q g g1 g2)⟩
end
end Dl

/-! Rk7: d.update(a list of pairs). -/
namespace Rk
open PySem PySem.Spec PyProof.Rows L2
def rUpdP (K : PySem.W.Frag) : V → List V → Hp → VK → Prop := fun x vs H Q => ∃ (d a : Addr) (ps : List Addr) (acc kvs : List (Key × V)), x = .ref d ∧ vs = [.ref a] ∧ H d = some (.dK acc) ∧ SqL K H a (ps.map V.ref) ∧ Paired (fun p kv => SqT K H p [kV kv.1, kv.2]) ps kvs ∧ acc.length + ps.length ≤ sizeLine ∧ d ≠ a ∧ d ∉ ps ∧ Q .non (upd H d (.dK (mergeK acc kvs)))
theorem pairs_at {X : Cx} {pins : List (Addr × Obj)} {σ : L2.St} {H : Hp} {s : Shared} (I : Inv X pins σ H s) : ∀ {ps : List Addr} {kvs : List (Key × V)}, Paired (fun p kv => SqT X.K H p [kV kv.1, kv.2]) ps kvs →
    ∃ (prs : List (Key × Value)) (us : List (Value × Value)), KV kvs prs ∧ prs.length = ps.length ∧ us.length = ps.length ∧ ∀ (j : Nat) (u y : Value), us[j]? = some (u, y) → ∃ b k, ps[j]? = some b ∧ prs[j]? = some (k, y) ∧ IsTup s.heap b #[u, y] ∧ keyIs k u = true
  | _, _, .nil => ⟨[], [], .nil, rfl, rfl, fun j u y e => by simp at e⟩
  | _, _, .cons (a := p) (b := kv) h t => by
    obtain ⟨prs, us, r, hl, hu, hp⟩ := pairs_at I t
    obtain ⟨its, rv, ht, _⟩ := I.tuple h
    obtain ⟨u, y, ei, ru, ry⟩ := vals2 rv
    subst ei
    refine ⟨(kv.1, y) :: prs, (u, y) :: us, .cons ⟨rfl, ry⟩ r, by rw [List.length_cons, List.length_cons, hl], by rw [List.length_cons, List.length_cons, hu], fun j u' y' e => ?_⟩
    cases j with
    | zero =>
      cases (show (u, y) = (u', y') from Option.some.inj e)
      exact ⟨p, kv.1, rfl, rfl, ht, kV_is (P := X.prog) (w := X.w) ru⟩
    | succ j =>
      obtain ⟨b, k, e1, e2, e3, e4⟩ := hp j u' y' (by simpa using e)
      exact ⟨b, k, by simpa using e1, by simpa using e2, e3, e4⟩
theorem mt_updP {X : Cx} (hcalm : X.calm = true) : MtM X "dict.update" (rUpdP X.K) := by
  intro pins s σ H x vs v us Q I rx rv h
  obtain ⟨d, a, ps, acc, kvs, rfl, rfl, hH, hB, hP, hz, hda, hdp, q⟩ := h
  cases rx
  obtain ⟨u, rfl, ru⟩ := rv.one
  cases ru
  obtain ⟨its, rv2, pl, hz2⟩ := I.list hB
  have ei := refs_at rv2
  subst ei
  obtain ⟨z, hd, as, rel, dd⟩ := dk_of I.hok hH
  obtain ⟨prs, us, rel2, hl, hul, hpr⟩ := pairs_at I hP
  obtain ⟨o, n, ho, hc, hdn, hdat⟩ := pl
  have hlen : (mergeK acc kvs).length ≤ sizeLine := by
    have := length_mergeK kvs acc
    have := rel2.length
    omega
  refine call_update_pairs (knd := mixKind X.prog X.w) (acc := as) (kvs := prs) (PairArg.list a (ps.map Value.ref).toArray (fun j => ps.getD j 0) us) (I.ok.hd hcalm) ⟨⟨o, n, ho, hc, hdn, hdat⟩, by simp [hul], fun j k v e => ?_⟩ ?_ ⟨by omega, fun i key v e => ?_⟩ dd (by rw [← rel.length, hul]; exact hz) fun h' tk hd' hk => ?_
  · obtain ⟨b, k', e1, e2, e3, e4⟩ := hpr j k v e
    refine ⟨by simp [e1], ?_⟩
    show PairAt s.heap (ps.getD j 0) k v
    rw [List.getD_eq_getElem?_getD, e1]
    exact .inl (by obtain ⟨o2, h1, h2, h3, h4⟩ := e3; exact ⟨o2, h1, h2, h3, h4⟩)
  · intro hm
    rcases List.mem_cons.mp hm with e | hm
    · exact hda e
    · obtain ⟨j, hj, e⟩ := List.mem_map.mp hm
      have hj := List.mem_range.mp hj
      rw [hul] at hj
      have e : ps.getD j 0 = d := e
      rw [List.getD_eq_getElem?_getD, List.getElem?_eq_getElem hj] at e
      exact hdp (e ▸ List.getElem_mem hj)
  · obtain ⟨b, k', e1, e2, e3, e4⟩ := hpr i key v e
    exact ⟨k', e2, e4⟩
  · refine ⟨.non, _, I.write (x := d) (e := d) (o := .dK (mergeK acc kvs)) (t' := tk) (by rw [hH]; exact True.intro) (.inl rfl) (fun b q hb z => hk b q hb (fun m => nomatch m) z) (let ⟨q, _, _, hq, _⟩ := hd'; ⟨q, hq⟩) (dk_new hlen hd (rel2.merge rel) hd'), rfl, q⟩
end Rk

/-! Dl24: dicts with text keys that own lists: their entries, stores into their lists. -/
namespace Dl
open PySem PySem.Spec PyProof.Rows L2
open Evl (Ex)
/-- the dict at a has data d at its key f -/
def KeyD (K : PySem.W.Frag) (R : Res) (a : Addr) (f : Str) (d : PyData) : Prop := ∀ v B H M, R.P v B H M → ∃ kvs u, H a = some (.dK kvs) ∧ valV kvs (.inr f) = some u ∧ Dp K B u d
def KeyR (R : Res) (a : Addr) (f : Str) (b : Addr) : Prop := ∀ v B H M, R.P v B H M → ∃ kvs, H a = some (.dK kvs) ∧ valV kvs (.inr f) = some (.ref b)
def KeyPut (K : PySem.W.Frag) (R R' : Res) (a : Addr) (f : Str) (d : PyData) : Prop := ∀ v B H M y, R.P v B H M → Dp K B y d → ∃ kvs, H a = some (.dK kvs) ∧ M a ∧ kvs.length < sizeLine ∧ R'.P v B (upd H a (.dK (putK kvs (.inr f) y))) M
/-- to put d at the place k of the list at b makes R' of R -/
def ItemPut (K : PySem.W.Frag) (R R' : Res) (b : Addr) (n k : Nat) (d : PyData) : Prop := ∀ v B H M y, R.P v B H M → Dp K B y d → ∃ xs, H b = some (.lst xs) ∧ M b ∧ xs.length = n ∧ R'.P v B (upd H b (.lst (xs.set k y))) M
section
variable {K : PySem.W.Frag} {w : World} {δ : List Slot} {te ta tb tc : TE} {tr : TA} {tt : TT} {t u : TS} {d : Dn} {Φ : Slot → List Slot → Prop} {B H : Hp} {σ : L2.St} {F F' M : Addr → Prop}
theorem ev_keyD {f : Str} (h : EvS K ta δ fun s δ1 => ∃ i R a d, At δ1 s i R a ∧ KeyD K R a f d ∧ Φ (.pu d) δ1) : EvS K (tDGet ta (tC (.str f))) δ Φ := fun B H σ F Q S k =>
  h B H σ F _ S fun v M s B2 H2 δ1 e fr S2 wk n ⟨i, R, a, d, ha, hf, q⟩ => by
    obtain ⟨rfl, v', M', ev, hP⟩ := at_ref S2 wk ha
    obtain ⟨kvs, u, h1, h2, h3⟩ := hf _ _ _ _ hP
    have g := DGet.k (k := .inr f) h1
    rw [h2] at g
    exact ⟨a, u, rfl, g, k u (fun _ => False) (.pu d) B2 H2 δ1 e (fun a z => fr a z) ((S2.less fun a z => .inl z).less fun a z => z.elim id False.elim) ⟨h3, fun _ z => z⟩ (fun _ z => z.elim) q⟩
theorem ev_keyR {f : Str} (h : EvS K ta δ fun s δ1 => ∃ i R a b, At δ1 s i R a ∧ KeyR R a f b ∧ Φ (.ow (RRef b)) δ1) : EvS K (tDGet ta (tC (.str f))) δ Φ := fun B H σ F Q S k =>
  h B H σ F _ S fun v M s B2 H2 δ1 e fr S2 wk n ⟨i, R, a, b, ha, hf, q⟩ => by
    obtain ⟨rfl, v', M', ev, hP⟩ := at_ref S2 wk ha
    obtain ⟨kvs, h1, h2⟩ := hf _ _ _ _ hP
    have g := DGet.k (k := .inr f) h1
    rw [h2] at g
    exact ⟨a, _, rfl, g, k (.ref b) (fun _ => False) (.ow (RRef b)) B2 H2 δ1 e (fun a z => fr a z) ((S2.less fun a z => .inl z).less fun a z => z.elim id False.elim) ⟨rfl, fun _ z => z⟩ (fun _ z => z.elim) q⟩
/-- k["f"] = e -/
theorem xs_keyPut {f : Str} (h : EvD K tb δ fun x δ1 => EvS K ta δ1 fun s δ2 => ∃ (i : Nat) (R R' : Res) (a : Addr), At δ2 s i R a ∧ KeyPut K R R' a f x ∧ d.nx (δ2.set i (.ow R'))) : ExS K (sDPut ta (tC (.str f)) tb) d δ := fun B H σ F D S L =>
  h B H σ F _ S fun v x B1 H1 δ1 e1 f1 S1 hd p => p B1 H1 σ F _ S1 fun u M s B2 H2 δ2 e2 f2 S2 wk n ⟨i, R, R', a, ha, hp, q⟩ => by
    obtain ⟨rfl, _⟩ := at_ref S2 wk ha
    have S2' : Sd K B2 H2 σ δ2 F := S2.less fun c z => .inl z
    obtain ⟨v', M', ev, hP, put⟩ := S2'.putR ha.1
    obtain ⟨kvs, g1, g2, g3, g4⟩ := hp _ _ _ _ v hP (dp_mono e2 _ _ hd)
    obtain ⟨S3, f3⟩ := put a _ R' g2 g4
    exact ⟨a, _, rfl, DPut.k (k := .inr f) g1 g3, L.nx B2 _ σ _ (e1.trans e2) (fun c z => (f3 c z).trans ((f2 c z).trans (f1 c z))) S3 q⟩
/-- xs[i] = e, xs a list inside -/
theorem xs_itemPut (h : EvD K te δ fun x δ1 => EvS K ta δ1 fun s δ2 => ∃ b, s = .ow (RRef b) ∧ EvS K tb δ2 fun s2 δ3 => ∃ (i : Nat) (R R' : Res) (n k : Nat), s2 = .pu (.int (k : Int)) ∧ k < n ∧ δ3[i]? = some (.ow R) ∧ ItemPut K R R' b n k x ∧ d.nx (δ3.set i (.ow R'))) : ExS K (tAsg te (gSub ta tb rSetL)) d δ := fun B H σ F D S L =>
  h B H σ F _ S fun v x B1 H1 δ1 e1 f1 S1 hd p => p B1 H1 σ F _ S1 fun u M s B2 H2 δ2 e2 f2 S2 wk n ⟨b, es, p2⟩ => by
    subst es
    obtain ⟨rfl, hM⟩ := wk
    refine p2 B2 H2 σ F _ (S2.less fun c z => .inl z) fun u3 M3 s3 B3 H3 δ3 e3 f3 S3 wk3 n3 ⟨i, R, R', m, k, es3, hk, hi, hp, q⟩ => ?_
    subst es3
    have S3' : Sd K B3 H3 σ δ3 F := S3.less fun c z => .inl z
    obtain ⟨v', M', ev, hP, put⟩ := S3'.putR hi
    obtain ⟨xs, g1, g2, g3, g4⟩ := hp _ _ _ _ v hP (dp_mono (e2.trans e3) _ _ hd)
    obtain ⟨S4, f4⟩ := put b _ R' g2 g4
    have hix : ixN xs.length (k : Int) = some k := by rw [g3]; exact ixN_nat hk
    exact ⟨b, xs, _, k, rfl, dp_int_inv wk3.1, g1, hix, L.nx B3 _ σ _ ((e1.trans e2).trans e3) (fun c z => (f4 c z).trans ((f3 c z).trans ((f2 c z).trans (f1 c z)))) S4 q⟩
end
section
variable {K : PySem.W.Frag} {root a b : Addr} {cs : Cells} {cs' : Cell → Cells} {fs : List (Str × CV)} {f : Str} {x : PyData} {xs : List CV}
theorem key_d (hm : (a, Cell.dct fs) ∈ cs) (hf : fs.lookup f = some (.d x)) : KeyD K (RH K root cs) a f x := fun v B H M h => by
  obtain ⟨⟨ys, e1, e2⟩, _⟩ := RH.get h hm
  obtain ⟨u, e3, e4⟩ := tsa_some e2 hf
  exact ⟨ys, u, e1, e3, e4⟩
theorem key_r (hm : (a, Cell.dct fs) ∈ cs) (hf : fs.lookup f = some (.r b)) : KeyR (RH K root cs) a f b := fun v B H M h => by
  obtain ⟨⟨ys, e1, e2⟩, _⟩ := RH.get h hm
  obtain ⟨u, e3, e4⟩ := tsa_some e2 hf
  exact ⟨ys, e1, by rw [e3, show u = .ref b from e4]⟩
theorem keyput_d (hh : Has cs a (.dct fs) cs') (hl : fs.length < 100000) : KeyPut K (RH K root cs) (RH K root (cs' (.dct (putT fs f (.d x))))) a f x := fun v B H M y h hy => by
  obtain ⟨⟨ys, e1, e2⟩, hM⟩ := RH.get h hh.mem
  exact ⟨ys, e1, hM, Evl.sz_lt (by rw [tsa_len e2]; exact hl), RH.put h hh ⟨_, rfl, tsa_put (c := .d x) hy e2⟩⟩
theorem itemput {k : Nat} (hh : Has cs b (.lst xs) cs') : ItemPut K (RH K root cs) (RH K root (cs' (.lst (xs.set k (.d x))))) b xs.length k x := fun v B H M y h hy => by
  obtain ⟨⟨ys, e1, e2⟩, hM⟩ := RH.get h hh.mem
  exact ⟨ys, e1, hM, cva_len e2, RH.put h hh ⟨_, rfl, cva_set (c := .d x) hy k e2⟩⟩
end
end Dl

/-! Dl25: defs that tell a new thing that is owned; displays of dicts that own lists; update of such a dict. -/
namespace Dl
open PySem PySem.Spec PyProof.Rows L2
open Evl (Ex)
/-- data in, anything new out -/
def spN (K : PySem.W.Frag) (n : Nat) (pre : List PyData → Prop) (T : List PyData → Slot → Prop) : Sp := fun vs H Q _ =>
  ∃ B ds, Ex B H ∧ DpAll K B vs ds ∧ ds.length = n ∧ pre ds ∧ ∀ v B2 H2 s M, Gr B H B2 H2 → VOk K [] [] B2 H2 v M s → (∀ a, M a → H a = none ∧ B2 a = none) → T ds s → Q v H2
theorem spN_len {K : PySem.W.Frag} {n : Nat} {pre : List PyData → Prop} {T : List PyData → Slot → Prop} {vs : List V} {H : Hp} {Q : VK} {E : XK} (h : spN K n pre T vs H Q E) : vs.length = n := by
  obtain ⟨B, ds, _, ha, hn, _⟩ := h
  rw [dpa_len ha, hn]
section
variable {K : PySem.W.Frag} {w : World} {δ : List Slot} {te ta tb tc : TE} {tr : TA} {tt : TT} {t u : TS} {d : Dn} {Φ : Slot → List Slot → Prop} {n : Nat} {pre : List PyData → Prop} {T : List PyData → Slot → Prop} {E : XK}
theorem sd_freshM {B H B3 H3 : Hp} {σ : L2.St} {F M : Addr → Prop} (S : Sd K B H σ δ F) (g : Gr B H B3 H3) (hp : ∀ a, M a → H a = none) (hb : ∀ a, M a → B3 a = none) (h3 : ∀ a, M a → H3 a ≠ none) : Sd K B3 H3 σ δ fun a => F a ∨ M a := by
  have S2 := S.grow g
  obtain ⟨ms, h1, h2, h3', h4⟩ := S.sl
  refine ⟨S2.bh, S2.len, fun a ha => ha.elim (S2.fb a) (hb a), fun a ha => ha.elim (S2.fl a) (h3 a), ms, fun i s hs => (h1 i s hs).grow g, h2, fun i a q z => ?_, h4⟩
  rcases z with z | z
  · exact h3' i a q z
  · have hl := h4 i a q
    have q2 := h1 i δ[i] (List.getElem?_eq_getElem hl)
    cases e : δ[i] with
    | non => rw [e] at q2; exact q2 a q
    | pu d => rw [e] at q2; obtain ⟨_, _, _, z⟩ := q2; exact z a q
    | ow R => rw [e] at q2; obtain ⟨_, _, hP, _⟩ := q2; exact R.live hP a q (hp a z)
    | al j => rw [e] at q2; exact q2
theorem ev_callN (h : EvDs K tr δ fun ds δ1 => ds.length = n ∧ pre ds ∧ ∀ s, T ds s → Φ s δ1) : EvS K (tCall (spN K n pre T) [] E tr) δ Φ := fun B H σ F Q S k =>
  h B H σ F _ S fun vs ds B2 H2 δ1 e f S2 ha ⟨hn, hp, q⟩ => by
    show spN K n pre T (vs ++ []) H2 Q E
    rw [List.append_nil]
    refine ⟨B2, ds, S2.bh, ha, hn, hp, fun v B3 H3 s M g hw hM hT => ?_⟩
    exact k v M s B3 H3 δ1 (e.trans g.b) (fun a z => (ex_eq g.h (S2.fl a z)).trans (f a z)) (sd_freshM S2 g (fun a z => (hM a z).1) (fun a z => (hM a z).2) (fun a z => hw.lives a z)) hw.any (fun a z z2 => S2.fl a z2 (hM a z).1) (q s hT)
def RtN (T : Slot → Prop) (s : Slot) (δ : List Slot) : Prop := (∃ z, s = .pu z ∧ T s) ∨ (∃ R, s = .ow R ∧ T s) ∨ ∃ k R, s = .al k ∧ δ[k]? = some (.ow R) ∧ T (.ow R)
theorem body_N {N : List Str} {vs : List V} {H : Hp} {Q : VK} (h : spN K n pre T vs H Q E)
    (hx : ∀ ds, ds.length = n → pre ds → ExS K t { nx := fun _ => T ds (.pu .none), rt := RtN (T ds) } (ds.map Slot.pu ++ List.replicate (N.length - ds.length) Slot.non)) : t { nx := fun _ H' => Q .non H', rt := Q } (L2.start N vs) H := by
  obtain ⟨B, ds, eB, ha, hn, hp, q⟩ := h
  refine hx ds hn hp B H (L2.start N vs) (FrB B H) _ (sd_start eB ha) ⟨fun B2 H2 σ2 δ2 e f S p => q .non B2 H2 (.pu .none) (fun _ => False) (gr_end eB e f S) ⟨.non, fun _ z => z⟩ (fun _ z => z.elim) p, fun _ _ _ _ _ _ _ z => z.elim, fun _ _ _ _ _ _ _ z => z.elim, fun v M s B2 H2 σ2 δ2 e f S w nF p => ?_⟩
  have S' : Sd K B2 H2 σ2 δ2 (FrB B H) := S.less fun a z => .inl z
  have g := gr_end eB e f S'
  have new : ∀ a, B2 a = none → ¬ FrB B H a → H a = none := fun a hb nf => by
    cases hh : H a with
    | none => rfl
    | some u => exact absurd ⟨nn_of hh, exnone e hb⟩ nf
  rcases p with ⟨z, rfl, hT⟩ | ⟨R, rfl, hT⟩ | ⟨k, R, rfl, hk, hT⟩
  · exact q v B2 H2 (.pu z) (fun _ => False) g ⟨w.1, fun _ z => z⟩ (fun _ z => z.elim) hT
  · exact q v B2 H2 (.ow R) M g w (fun a z => ⟨new a (S.fb a (.inr z)) (nF a z), S.fb a (.inr z)⟩) hT
  · obtain ⟨v', M', ev, hP, hb, hF, _⟩ := S'.opn hk
    rw [w.1] at ev
    cases ev
    exact q v B2 H2 (.ow R) M' g hP (fun a z => ⟨new a (hb a z) (hF a z), hb a z⟩) hT
theorem calN {P : Program} {mg : Str → Option Value} {base : Heap} {x : Str} {st : Stmt} {N ps : List Str} {k : Nat} (D : Df K mg x st ps) (S : FnScope N ps (defScope st)) (hn : ps.length = n)
    (hbody : ∀ (f : Addr) (cdv : Value) (A : Around) (outer : List Env) (s : Shared) (H : Hp) (E : XK), Room k (A.deeper (envOfC x (defScope st) s.heap.objs.size f cdv)) →
      ∃ t, PSs (cxOf CX0 P w K mg base N x (defScope st) f cdv A outer s H E).nox (defBody st) t ∧ ∀ ds, ds.length = n → pre ds → ExS K t { nx := fun _ => T ds (.pu .none), rt := RtN (T ds) } (ds.map Slot.pu ++ List.replicate (N.length - ds.length) Slot.non)) : Cal P w K mg base (k + 1) x (spN K n pre T) := by
  obtain ⟨f, fd, F, hm, hb⟩ := D.ex
  refine ⟨f, fd, ps, F.ok S (fun vs H Q E h => by rw [spN_len h, hn]) (fun cdv A outer s H vs Q E hr h => ?_), hm, F.kp, hb⟩
  obtain ⟨t, ht, hx⟩ := hbody f cdv A outer s H E hr
  exact ⟨t, ht, body_N h hx⟩
end
/-! ### displays of dicts that own lists -/
abbrev Ent := Str × (PyData ⊕ List PyData)
inductive PAll (K : PySem.W.Frag) (B H : Hp) : List (Str × V) → List Ent → (Addr → Prop) → Prop
  | nil : PAll K B H [] [] (fun _ => False)
  | d {f : Str} {v : V} {x : PyData} {xs : List (Str × V)} {es : List Ent} {M : Addr → Prop} : Dp K B v x → PAll K B H xs es M → PAll K B H ((f, v) :: xs) ((f, .inl x) :: es) M
  | l {f : Str} {p : Addr} {ys : List V} {ds : List PyData} {xs : List (Str × V)} {es : List Ent} {M : Addr → Prop} : H p = some (.lst ys) → DpAll K B ys ds → ¬ M p → PAll K B H xs es M → PAll K B H ((f, .ref p) :: xs) ((f, .inr ds) :: es) (fun a => a = p ∨ M a)
def entF : List Ent → List Addr → List (Str × CV)
  | [], _ => []
  | (f, .inl x) :: r, as => (f, .d x) :: entF r as
  | (f, .inr _) :: r, a :: as => (f, .r a) :: entF r as
  | (_, .inr _) :: _, [] => []
def entC : List Ent → List Addr → Cells
  | [], _ => []
  | (_, .inl _) :: r, as => entC r as
  | (_, .inr ds) :: r, a :: as => (a, .lst (ds.map .d)) :: entC r as
  | (_, .inr _) :: _, [] => []
def entN : List Ent → Nat
  | [] => 0
  | (_, .inl _) :: r => entN r
  | (_, .inr _) :: r => entN r + 1
section
variable {K : PySem.W.Frag} {w : World} {δ : List Slot} {te ta tb tc : TE} {tr : TA} {tt : TT} {t u : TS} {d : Dn} {Φ : Slot → List Slot → Prop} {B H B2 H2 : Hp}
theorem pall_step (e : Ex B B2) : ∀ {xs : List (Str × V)} {es : List Ent} {M : Addr → Prop}, PAll K B H xs es M → (∀ a, M a → H2 a = H a) → PAll K B2 H2 xs es M
  | _, _, _, .nil, _ => .nil
  | _, _, _, .d h t, k => .d (dp_mono e _ _ h) (pall_step e t k)
  | _, _, _, .l h1 h2 h3 t, k => .l (by rw [k _ (.inl rfl)]; exact h1) (dpa_mono e _ _ h2) h3 (pall_step e t fun a z => k a (.inr z))
theorem pall_cells : ∀ {xs : List (Str × V)} {es : List Ent} {M : Addr → Prop}, PAll K B H xs es M → ∃ as : List Addr, as.length = entN es ∧ TsAll K B (xs.map fun kv => (.inr kv.1, kv.2)) (entF es as) ∧ (∀ y ∈ entC es as, CellAt K B (H y.1) y.2) ∧ ((entC es as).map (·.1)).Nodup ∧ ∀ a, M a ↔ a ∈ (entC es as).map (·.1)
  | _, _, _, .nil => ⟨[], rfl, .nil, (fun _ h => nomatch h), List.nodup_nil, fun a => ⟨fun z => z.elim, fun z => nomatch z⟩⟩
  | _, _, _, .d h t => by
    obtain ⟨as, h1, h2, h3, h4, h5⟩ := pall_cells t
    exact ⟨as, h1, .cons h h2, h3, h4, h5⟩
  | _, _, _, @PAll.l _ _ _ f p ys ds xs es M g1 g2 g3 t => by
    obtain ⟨as, h1, h2, h3, h4, h5⟩ := pall_cells t
    refine ⟨p :: as, by show as.length + 1 = _; rw [h1]; rfl, .cons rfl h2, fun y hy => ?_, ?_, fun a => ?_⟩
    · rcases List.mem_cons.mp hy with rfl | hy
      · exact ⟨ys, g1, cva_data g2⟩
      · exact h3 y hy
    · show (p :: (entC es as).map (·.1)).Nodup
      exact List.nodup_cons.mpr ⟨fun z => g3 ((h5 p).mpr z), h4⟩
    · show _ ↔ a ∈ p :: (entC es as).map (·.1)
      rw [List.mem_cons, ← h5 a]
theorem pall_len : ∀ {xs : List (Str × V)} {es : List Ent} {M : Addr → Prop}, PAll K B H xs es M → xs.map (·.1) = es.map (·.1)
  | _, _, _, .nil => rfl
  | _, _, _, .d h t => by rw [List.map_cons, List.map_cons, pall_len t]
  | _, _, _, .l h1 h2 h3 t => by rw [List.map_cons, List.map_cons, pall_len t]
theorem tsa_keys : ∀ {xs : List (Key × V)} {fs : List (Str × CV)}, TsAll K B xs fs → xs.map (·.1) = fs.map (fun y => (.inr y.1 : Key))
  | _, _, .nil => rfl
  | _, _, .cons _ t => by rw [List.map_cons, List.map_cons, tsa_keys t]
theorem merge_new : ∀ (more acc : List (Key × V)), ((acc ++ more).map (·.1)).Nodup → mergeK acc more = acc ++ more
  | [], acc, _ => (List.append_nil acc).symm
  | (k, v) :: r, acc, h => by
    have hn : valV acc k = none := by
      cases q : valV acc k with
      | none => rfl
      | some u =>
        have hk : (acc.any fun kv => decide (kv.1 = k)) = true := by rw [valV_any, q]; rfl
        obtain ⟨x, hx, e⟩ := List.any_eq_true.mp hk
        rw [List.map_append, List.map_cons] at h
        exact absurd (of_decide_eq_true e) fun e => (List.nodup_append.mp h).2.2 x.1 (List.mem_map.mpr ⟨x, hx, rfl⟩) k (List.mem_cons_self ..) e
    show mergeK (putK acc k v) r = _
    rw [putK_new v hn, merge_new r (acc ++ [(k, v)]) (by rw [List.append_assoc]; exact h), List.append_assoc]
    rfl
/-- pairs of a display: text keys, data or new lists -/
def EvPq (K : PySem.W.Frag) (trs : List (TE × TE)) (δ : List Slot) (Φ : List Ent → List Slot → Prop) : Prop :=
  ∀ (B H : Hp) (σ : L2.St) (F : Addr → Prop) (Q : List (V × V) → Hp → Prop), Sd K B H σ δ F →
    (∀ xs es M B2 H2 δ2, Ex B B2 → (∀ a, F a → H2 a = H a) → Sd K B2 H2 σ δ2 (fun a => F a ∨ M a) → PAll K B2 H2 xs es M → (∀ a, M a → ¬ F a) → Φ es δ2 → Q (xs.map fun kv => (.str kv.1, kv.2)) H2) → tPairs trs σ H Q
theorem eq_nil {Φ : List Ent → List Slot → Prop} (h : Φ [] δ) : EvPq K [] δ Φ := fun B H σ F Q S k => k [] [] (fun _ => False) B H δ (Ex.refl _) (fun _ _ => rfl) (S.less fun a z => z.elim id False.elim) .nil (fun _ z => z.elim) h
theorem eq_cons {f : Str} {trs : List (TE × TE)} {Φ : List Ent → List Slot → Prop} (h : EvS K tb δ fun s δ1 => (∃ x, s = .pu x ∧ EvPq K trs δ1 fun es δ2 => Φ ((f, .inl x) :: es) δ2) ∨ ∃ ds, s = .ow (RL K ds) ∧ EvPq K trs δ1 fun es δ2 => Φ ((f, .inr ds) :: es) δ2) : EvPq K ((tC (.str f), tb) :: trs) δ Φ := fun B H σ F Q S kk =>
  h B H σ F _ S fun v M s B1 H1 δ1 e1 f1 S1 w1 n1 p => by
    rcases p with ⟨x, es, p⟩ | ⟨ds, es, p⟩
    · subst es
      exact p B1 H1 σ F _ (S1.less fun a z => .inl z) fun xs es M2 B2 H2 δ2 e2 f2 S2 ha n2 r => kk ((f, v) :: xs) ((f, .inl x) :: es) M2 B2 H2 δ2 (e1.trans e2) (fun a z => (f2 a z).trans (f1 a z)) S2 (.d (dp_mono e2 _ _ w1.1) ha) n2 r
    · subst es
      obtain ⟨p0, ys, rfl, hp, hd, hM⟩ := w1
      refine p B1 H1 σ _ _ S1 fun xs es M2 B2 H2 δ2 e2 f2 S2 ha n2 r => kk ((f, .ref p0) :: xs) ((f, .inr ds) :: es) (fun a => a = p0 ∨ M2 a) B2 H2 δ2 (e1.trans e2) (fun a z => (f2 a (.inl z)).trans (f1 a z)) (S2.less fun a z => z.elim (fun z => .inl (.inl z)) fun z => z.elim (fun z => .inl (.inr ((hM a).mpr z))) .inr) (.l (by rw [f2 p0 (.inr ((hM p0).mpr rfl))]; exact hp) (dpa_mono e2 _ _ hd) (fun z => n2 p0 z (.inr ((hM p0).mpr rfl))) ha) (fun a z hf => z.elim (fun z => n1 a ((hM a).mpr z) hf) fun z => n2 a z (.inl hf)) r
theorem eq_consF {f : Str} {trs : List (TE × TE)} {Φ : List Ent → List Slot → Prop} (h : EvD K tb δ fun x δ1 => EvPq K trs δ1 fun es δ2 => Φ ((f, .inl x) :: es) δ2) : EvPq K ((tC (.str f), tb) :: trs) δ Φ := fun B H σ F Q S kk =>
  h B H σ F _ S fun v x B1 H1 δ1 e1 f1 S1 hd p => p B1 H1 σ F _ S1 fun xs es M2 B2 H2 δ2 e2 f2 S2 ha n2 r => kk ((f, v) :: xs) ((f, .inl x) :: es) M2 B2 H2 δ2 (e1.trans e2) (fun a z => (f2 a z).trans (f1 a z)) S2 (.d (dp_mono e2 _ _ hd) ha) n2 r
theorem ev_dispQ {trs : List (TE × TE)} (h : EvPq K trs δ fun es δ1 => es.length ≤ 15 ∧ (es.map (·.1)).Nodup ∧ ∀ p as, as.length = entN es → Φ (.ow (RH K p ((p, .dct (entF es as)) :: entC es as))) δ1) : EvS K (tDisp trs) δ Φ := fun B H σ F Q S k p hp => by
  have S1 := sd_own (o := .dK []) S hp
  refine h B _ σ _ _ S1 fun xs es M B2 H2 δ2 e f S2 ha nM ⟨hl, hnd, q⟩ => ?_
  have hH2p : H2 p = some (.dK []) := by rw [f p (.inr rfl), upd_same]
  have hkeys := pall_len ha
  refine ⟨hH2p, xs.map fun kv => (.inr kv.1, kv.2), by rw [List.map_map]; rfl, by rw [List.length_map, ← List.length_map (f := (·.1)), hkeys, List.length_map]; exact hl, ?_⟩
  obtain ⟨as, c1, c2, c3, c4, c5⟩ := pall_cells ha
  have hm : mergeK [] (xs.map fun kv => ((.inr kv.1 : Key), kv.2)) = xs.map fun kv => (.inr kv.1, kv.2) := by
    refine merge_new _ [] ?_
    rw [List.nil_append, List.map_map]
    have e1 : (xs.map ((fun x : Key × V => x.1) ∘ fun kv => ((.inr kv.1 : Key), kv.2))) = (xs.map (·.1)).map (fun x : Str => (.inr x : Key)) := by rw [List.map_map]; rfl
    rw [e1, hkeys]
    unfold List.Nodup
    rw [List.pairwise_map]
    exact hnd.imp fun h z => h (Sum.inr.inj z)
  rw [hm]
  have hbp : B2 p = none := S2.fb p (.inl (.inr rfl))
  have nF : ∀ a, F a → a ≠ p := fun a z e => S.fl a z (by rw [e]; exact hp)
  have nMp : ∀ a, M a → a ≠ p := fun a z e => nM a z (.inr e)
  refine k (.ref p) (fun a => a = p ∨ M a) (.ow (RH K p ((p, .dct (entF es as)) :: entC es as))) B2 _ δ2 e (fun a z => by rw [upd_ne (nF a z), f a (.inl z), upd_ne (nF a z)]) ?_ ⟨rfl, fun y hy => ?_, ?_, fun a => ?_⟩ (fun a z hf => z.elim (fun z => nF a hf z) fun z => nM a z (.inl hf)) (q p as c1)
  · obtain ⟨ms, h1, h2, h3, h4⟩ := S2.sl
    refine ⟨fun a u ha' => ?_, S2.len, fun a z => S2.fb a (z.elim (fun z => .inl (.inl z)) fun z => z.elim (fun z => .inl (.inr z)) .inr), fun a z => ?_, ms, fun i s hs => ?_, h2, fun i a q z => h3 i a q (z.elim (fun z => .inl (.inl z)) fun z => z.elim (fun z => .inl (.inr z)) .inr), h4⟩
    · rw [upd_ne (fun e => by rw [e, hbp] at ha'; cases ha')]
      exact S2.bh a u ha'
    · by_cases e5 : a = p
      · rw [e5, upd_same]; exact fun z => nomatch z
      · rw [upd_ne e5]
        exact S2.fl a (z.elim (fun z => .inl (.inl z)) fun z => z.elim (fun z => .inl (.inr z)) .inr)
    · have q := h1 i s hs
      cases s with
      | non => exact q
      | pu x => exact q
      | ow R =>
        obtain ⟨v, ev, hP, hb'⟩ := q
        exact ⟨v, ev, R.loc hP (Ex.refl _) fun a z => upd_ne fun e5 => h3 i a z (.inl (.inr e5)), hb'⟩
      | al _ => exact q
  · rcases List.mem_cons.mp hy with rfl | hy
    · exact ⟨_, upd_same, c2⟩
    · rw [upd_ne (nMp _ ((c5 _).mpr (List.mem_map.mpr ⟨y, hy, rfl⟩)))]
      exact c3 y hy
  · show (p :: (entC es as).map (·.1)).Nodup
    exact List.nodup_cons.mpr ⟨fun z => nMp p ((c5 p).mpr z) rfl, c4⟩
  · show _ ↔ a ∈ p :: (entC es as).map (·.1)
    rw [List.mem_cons, ← c5 a]
/-- k.update([("f", []), ("g", data)]), both keys new -/
theorem ev_updLW {j : Nat} {f g : Str} (h : EvD K te δ fun x δ1 => ∃ p fs cs, δ1[j]? = some (.ow (RH K p ((p, .dct fs) :: cs))) ∧ ((fs.map (·.1)) ++ [f, g]).Nodup ∧ fs.length < 1000 ∧ ∀ a, Φ (.pu .none) (δ1.set j (.ow (RH K p ((p, .dct (fs ++ [(f, .r a), (g, .d x)])) :: (cs ++ [(a, .lst [])])))))) (h0 : ∃ p fs cs, δ[j]? = some (.ow (RH K p ((p, .dct fs) :: cs)))) :
    EvS K (tBM K "dict" (Rk.rUpdP K) (tVar j) (tCons (tLst (tCons (tTup (tCons (tC (.str f)) (tCons (tLst tNil) tNil))) (tCons (tTup (tCons (tC (.str g)) (tCons te tNil))) tNil))) tNil)) δ Φ := fun B H σ F Q S k => by
  obtain ⟨p0, fs0, cs0, hj0⟩ := h0
  obtain ⟨v0, M0, ev0, hP0, hb0, hF0, _⟩ := S.opn hj0
  obtain ⟨⟨ys0, e0, _⟩, hM0⟩ := RH.get (K := K) (root := p0) hP0 (List.mem_cons_self ..)
  obtain rfl := hP0.1
  refine ⟨_, ev0, .inr (.inr (.inl ⟨rfl, .inl ⟨_, e0⟩⟩)), ?_⟩
  show 0 ≤ sizeLine ∧ ∀ a, H a = none → _
  refine ⟨Nat.zero_le _, fun a ha => ?_⟩
  have S1 := sd_own (o := .lst []) S ha
  show 2 ≤ sizeLine ∧ ∀ t1, _
  refine ⟨by rw [sizeLine_eq]; decide, fun t1 ht1 => ?_⟩
  have S2 := sd_own (o := .tup [.str f, .ref a]) S1 ht1
  have nt1 : a ≠ t1 := fun e => by rw [← e, upd_same] at ht1; cases ht1
  refine h B _ σ _ _ S2 fun v x B3 H3 δ1 e3 f3 S3 hd ⟨p, fs, cs, hj, hnd, hfl, q⟩ => ?_
  have h3t : H3 t1 = some (.tup [.str f, .ref a]) := by rw [f3 t1 (.inr rfl), upd_same]
  have h3a : H3 a = some (.lst []) := by rw [f3 a (.inl (.inr rfl)), upd_ne nt1, upd_same]
  show 2 ≤ sizeLine ∧ ∀ t2, _
  refine ⟨by rw [sizeLine_eq]; decide, fun t2 ht2 => ?_⟩
  have S4 := S3.grow (Gr.own (o := .tup [.str g, v]) S3.bh ht2)
  have n2 : ∀ c o, H3 c = some o → c ≠ t2 := fun c o hc e => by rw [e, ht2] at hc; cases hc
  show 2 ≤ sizeLine ∧ ∀ l, _
  refine ⟨by rw [sizeLine_eq]; decide, fun l hl => ?_⟩
  have S5 := S4.grow (Gr.own (o := .lst [.ref t1, .ref t2]) S4.bh hl)
  have hl3 : H3 l = none ∧ l ≠ t2 := by
    by_cases e : l = t2
    · rw [e, upd_same] at hl; cases hl
    · rw [upd_ne e] at hl; exact ⟨hl, e⟩
  have n3 : ∀ c o, H3 c = some o → c ≠ l := fun c o hc e => by rw [e, hl3.1] at hc; cases hc
  generalize hH5 : upd (upd H3 t2 (.tup [.str g, v])) l (.lst [.ref t1, .ref t2]) = H5 at S5
  have k5 : ∀ c o, H3 c = some o → H5 c = some o := fun c o hc => by rw [← hH5, upd_ne (n3 c o hc), upd_ne (n2 c o hc)]; exact hc
  have S5' : Sd K B3 H5 σ δ1 (fun c => F c ∨ c = a) := S5.less fun c z => z.elim (fun z => .inl (.inl z)) fun z => .inl (.inr z)
  obtain ⟨v', M', ev, hP, hb, hdis, op⟩ := S5'.chg (M1 := fun c => c = a) (fun c hc hf => S.fl c hf (by rw [hc]; exact ha)) hj
  obtain ⟨⟨ys, ey, hy⟩, hMp⟩ := RH.get (K := K) (root := p) hP (List.mem_cons_self ..)
  obtain ⟨rfl, g1, g2, g3⟩ := hP
  rw [ev0] at ev
  cases ev
  have npa : p0 ≠ a := fun e => (hdis p0 hMp).2 e
  have hbp : B3 p0 = none := hb p0 hMp
  have np3 : H3 p0 ≠ none := fun z => by
    have := S.fl
    have hh : H p0 ≠ none := by rw [e0]; exact fun z => nomatch z
    have h1 : upd (upd H a (.lst [])) t1 (.tup [.str f, .ref a]) p0 ≠ none := by
      by_cases e : p0 = t1
      · rw [e, upd_same]; exact fun z => nomatch z
      · rw [upd_ne e]
        by_cases e2 : p0 = a
        · rw [e2, upd_same]; exact fun z => nomatch z
        · rw [upd_ne e2]; exact hh
    obtain ⟨vv, MM, evv, hPP, _⟩ := S3.opn hj
    rw [ev0] at evv
    cases evv
    obtain ⟨⟨yy, ee, _⟩, _⟩ := RH.get (K := K) (root := p0) hPP (List.mem_cons_self ..)
    rw [ee] at z
    cases z
  obtain ⟨o3, ho3⟩ := some_of_ne np3
  have hkeys : ys.map (·.1) = fs.map (fun y => (.inr y.1 : Key)) := tsa_keys hy
  refine ⟨p0, l, [t1, t2], ys, [(.inr f, .ref a), (.inr g, v)], rfl, rfl, ey, SqL.of (by rw [← hH5, upd_same]; rfl), .cons (SqT.of (k5 t1 _ h3t)) (.cons (SqT.of (by rw [← hH5, upd_ne (fun e => hl3.2 e.symm), upd_same]; rfl)) .nil), ?_, n3 p0 o3 ho3, ?_, ?_⟩
  · rw [tsa_len hy, sizeLine_eq]
    show fs.length + 2 ≤ _
    omega
  · intro hm
    rcases List.mem_cons.mp hm with e | hm
    · rw [← e] at h3t
      have := k5 _ _ h3t
      rw [ey] at this
      cases this
    · exact n2 p0 o3 ho3 (List.mem_singleton.mp hm)
  · have hmer : mergeK ys [((.inr f : Key), V.ref a), (.inr g, v)] = ys ++ [(.inr f, .ref a), (.inr g, v)] := by
      refine merge_new _ _ ?_
      rw [List.map_append, hkeys]
      have e1 : (fs.map (fun y => (.inr y.1 : Key))) ++ [((.inr f : Key), V.ref a), (.inr g, v)].map (·.1) = ((fs.map (·.1)) ++ [f, g]).map (fun x : Str => (.inr x : Key)) := by
        rw [List.map_append, List.map_map]; rfl
      rw [e1]
      unfold List.Nodup
      rw [List.pairwise_map]
      exact hnd.imp fun h z => h (Sum.inr.inj z)
    rw [hmer]
    have k6 : ∀ c, c ≠ p0 → upd H5 p0 (.dK (ys ++ [(.inr f, .ref a), (.inr g, v)])) c = H5 c := fun c hc => upd_ne hc
    have hn : p0 ∉ cs.map (·.1) := (List.nodup_cons.mp g2).1
    have S6 := op B3 (upd H5 p0 (.dK (ys ++ [(.inr f, .ref a), (.inr g, v)]))) (some (.ref p0)) (.ow (RH K p0 ((p0, .dct (fs ++ [(f, .r a), (g, .d x)])) :: (cs ++ [(a, .lst [])])))) (fun c => M' c ∨ c = a) (fun _ => False) (Ex.refl _) (fun c u hc => by
      rw [k6 c (fun e => by rw [e, hbp] at hc; cases hc)]
      exact S5.bh c u hc) (fun c o hc hn _ => by rw [k6 c (fun e => hn (by rw [e]; exact hMp))]; exact hc) (fun _ _ z => .inl z)
      ⟨_, rfl, ⟨rfl, fun y hy' => ?_, ?_, fun c => ?_⟩, fun c z => ?_⟩ (fun c z => z.elim .inl fun z => .inr (.inl z)) (fun c z => z.elim)
    · rw [set_self ev0] at S6
      refine k .non (fun _ => False) (.pu .none) B3 _ _ e3 (fun c z => ?_) (S6.less fun c z => z) ⟨.non, fun _ z => z⟩ (fun _ z => z.elim) (q a)
      have hcF : c ≠ p0 := fun e => (hdis p0 hMp).1 (e ▸ z)
      have hca : c ≠ a := fun e => S.fl c z (by rw [e]; exact ha)
      obtain ⟨oc, hoc⟩ := some_of_ne (S.fl c z)
      have hct : c ≠ t1 := fun e => by
        rw [← e, upd_ne hca, hoc] at ht1; cases ht1
      have h3c : H3 c = some oc := by rw [f3 c (.inl (.inl z)), upd_ne hct, upd_ne hca, hoc]
      rw [k6 c hcF, k5 c oc h3c, hoc]
    · rcases List.mem_cons.mp hy' with rfl | hy'
      · exact ⟨_, upd_same, tsa_app hy (.cons rfl (.cons hd .nil))⟩
      · rcases List.mem_append.mp hy' with hy' | hy'
        · rw [k6 y.1 (fun e => hn (e ▸ List.mem_map.mpr ⟨y, hy', rfl⟩))]
          exact g1 y (List.mem_cons_of_mem _ hy')
        · rw [List.mem_singleton.mp hy', k6 a (fun e => npa e.symm)]
          exact ⟨[], k5 a _ h3a, .nil⟩
    · show (p0 :: (cs ++ [(a, Cell.lst [])]).map (·.1)).Nodup
      rw [List.map_append]
      refine List.nodup_cons.mpr ⟨fun z => ?_, ?_⟩
      · rcases List.mem_append.mp z with z | z
        · exact hn z
        · exact npa (List.mem_singleton.mp z)
      · rw [List.nodup_append]
        refine ⟨(List.nodup_cons.mp g2).2, List.nodup_cons.mpr ⟨by simp, List.nodup_nil⟩, fun y hy b hb e => ?_⟩
        rw [show b = a from List.mem_singleton.mp hb] at e
        exact (hdis y ((g3 y).mpr (List.mem_cons_of_mem _ hy))).2 e
    · show _ ↔ c ∈ p0 :: (cs ++ [(a, Cell.lst [])]).map (·.1)
      rw [List.map_append, List.mem_cons, List.mem_append]
      have := g3 c
      rw [List.map_cons, List.mem_cons] at this
      show M' c ∨ c = a ↔ _ ∨ _ ∨ c ∈ [a]
      rw [this, List.mem_singleton]
      exact or_assoc
    · rcases z with z | z
      · exact hb c z
      · rw [z]; exact S5'.fb a (.inr rfl)
end
end Dl

/-! Dl26: lists of owned lists as data now; a, b = x, y of owned things; clear. -/
namespace Dl
open PySem PySem.Spec PyProof.Rows L2
open Evl (Ex)
/-- what R owns is the datum d now, with what is in B -/
def DeepD (K : PySem.W.Frag) (R : Res) (d : PyData) : Prop := ∀ v B H M, R.P v B H M → Ex B H → Dp K H v d
def DeepD2 (K : PySem.W.Frag) (R Rj : Res) (d : PyData) : Prop := ∀ v B H M v' M', R.P v B H M → Rj.P v' B H M' → Ex B H → Dp K H v d
def den2x (K : PySem.W.Frag) (δ : List Slot) (s : Slot) (d : PyData) : Prop :=
  den K δ s d ∨ (∃ R : Res, s = Slot.ow R ∧ DeepD K R d) ∨ (∃ (i : Nat) (R : Res), s = Slot.al i ∧ δ[i]? = some (Slot.ow R) ∧ DeepD K R d) ∨ ∃ (R : Res) (j : Nat) (Rj : Res), s = Slot.ow R ∧ δ[j]? = some (Slot.ow Rj) ∧ DeepD2 K R Rj d
inductive DenA2 (K : PySem.W.Frag) (δ : List Slot) : List Slot → List PyData → Prop
  | nil : DenA2 K δ [] []
  | cons {s : Slot} {d : PyData} {ss : List Slot} {ds : List PyData} : den2x K δ s d → DenA2 K δ ss ds → DenA2 K δ (s :: ss) (d :: ds)
section
variable {K : PySem.W.Frag} {w : World} {δ : List Slot} {te ta tb tc : TE} {tr : TA} {tt : TT} {t u : TS} {d : Dn} {Φ : Slot → List Slot → Prop}
theorem den2x_dp {B H : Hp} {σ : L2.St} {F' M : Addr → Prop} {v : V} {s : Slot} {x : PyData} (S : Sd K B H σ δ F') (h : VOk K σ δ B H v M s) (hd : den2x K δ s x) : Dp K H v x := by
  rcases hd with hd | ⟨R, rfl, hd⟩ | ⟨i, R, rfl, hi, hd⟩ | ⟨R, j, Rj, rfl, hj, hd⟩
  · exact (den_dr S h hd).dp S.bh
  · exact hd _ _ _ _ h S.bh
  · obtain ⟨v', M', ev, hP, _⟩ := S.opn hi
    rw [h.1] at ev
    cases ev
    exact hd _ _ _ _ hP S.bh
  · obtain ⟨v', M', ev, hP, _⟩ := S.opn hj
    exact hd _ _ _ _ _ _ h hP S.bh
theorem aok_dp2 {B H : Hp} {σ : L2.St} {ss : List Slot} {F' : Addr → Prop} {vs : List V} {M : Addr → Prop} (S : Sd K B H σ δ F') (h : AOk K σ δ B H vs ss M) : ∀ {ds : List PyData}, DenA2 K δ ss ds → DpAll K H vs ds := by
  induction h with
  | nil => intro ds hd; cases hd; exact .nil
  | cons h1 h2 h3 ih =>
    intro ds hd
    cases hd with
    | cons a b => exact .cons (den2x_dp S h1 a) (ih b)
theorem ev_callF2 {n : Nat} {pre : List PyData → Prop} {T : List PyData → Rt → Prop} {E : XK} (h : EvA K tr δ fun ss δ1 => ∃ ds, DenA2 K δ1 ss ds ∧ ds.length = n ∧ pre ds ∧ ∀ r, T ds r → ∃ z, r = .d z ∧ flatD z = true ∧ Φ (.pu z) δ1) : EvS K (tCall (spP K n pre T) [] E tr) δ Φ := fun B H σ F Q S k =>
  h B H σ F _ S fun vs M ss B2 H2 δ1 e f S2' w nn ⟨ds, hds, hn, hp, q⟩ => by
    show spP K n pre T (vs ++ []) H2 Q E
    rw [List.append_nil]
    have ha := aok_dp2 S2' w hds
    have S2 : Sd K B2 H2 σ δ1 F := S2'.less fun a z => .inl z
    refine ⟨H2, ds, Ex.refl _, ha, hn, hp, fun v B3 H3 r g' hr hT => ?_⟩
    have g : Gr B2 H2 B2 H3 := ⟨Ex.refl _, g'.h, S2.bh.trans g'.h, fun _ _ z => .inl z⟩
    have f3 : ∀ a, F a → H3 a = H a := fun a z => (ex_eq g.h (S2.fl a z)).trans (f a z)
    obtain ⟨z, rfl, fl, qq⟩ := q r hT
    exact k v (fun _ => False) (.pu z) B2 H3 δ1 e f3 ((S2.grow g).less fun a z => z.elim id False.elim) ⟨dp_any fl hr, fun _ z => z⟩ (fun _ z => z.elim) qq
/-- [x, y], x a new list, y a new list or a reference -/
theorem ev_lst2 (h : EvS K ta δ fun s1 δ1 => ∃ ds1, s1 = .ow (RL K ds1) ∧ EvS K tb δ1 fun s2 δ2 => (∃ ds2, s2 = .ow (RL K ds2) ∧ ∀ D a1 a2, Φ (.ow (RH K D [(D, .lst [.r a1, .r a2]), (a1, .lst (ds1.map .d)), (a2, .lst (ds2.map .d))])) δ2) ∨ ∃ b, s2 = .ow (RRef b) ∧ ∀ D a1, Φ (.ow (RH K D [(D, .lst [.r a1, .r b]), (a1, .lst (ds1.map .d))])) δ2) : EvS K (tLst (tCons ta (tCons tb tNil))) δ Φ := fun B H σ F Q S k =>
  h B H σ F _ S fun v1 M1 s1 B1 H1 δ1 e1 f1 S1 w1 n1 ⟨ds1, es1, p⟩ => by
    subst es1
    refine p B1 H1 σ _ _ S1 fun v2 M2 s2 B2 H2 δ2 e2 f2 S2 w2 n2 q => ?_
    obtain ⟨a1, xs1, rfl, h1, hd1, hM1⟩ := w1
    have h12 : H2 a1 = some (.lst xs1) := by rw [f2 a1 (.inr ((hM1 a1).mpr rfl))]; exact h1
    have na1 : ¬ F a1 := n1 a1 ((hM1 a1).mpr rfl)
    show 2 ≤ sizeLine ∧ ∀ D, _
    refine ⟨by rw [sizeLine_eq]; decide, fun D hD => ?_⟩
    have S3 := sd_own (o := .lst [.ref a1, v2]) S2 hD
    have nD : ∀ c, H2 c ≠ none → c ≠ D := fun c hc e => hc (by rw [e]; exact hD)
    have hF2 : ∀ c, F c → H2 c ≠ none := fun c z => S2.fl c (.inl (.inl z))
    have a1D : a1 ≠ D := nD a1 (nn_of h12)
    rcases q with ⟨ds2, es2, q⟩ | ⟨b, es2, q⟩
    · subst es2
      obtain ⟨a2, xs2, rfl, h2, hd2, hM2⟩ := w2
      have na2 : a2 ≠ a1 := fun e => n2 a2 ((hM2 a2).mpr rfl) (.inr (by rw [e]; exact (hM1 a1).mpr rfl))
      have na2F : ¬ F a2 := fun z => n2 a2 ((hM2 a2).mpr rfl) (.inl z)
      have a2D : a2 ≠ D := nD a2 (nn_of h2)
      refine k (.ref D) (fun c => c = D ∨ c = a1 ∨ c = a2) (.ow (RH K D _)) B2 _ δ2 (e1.trans e2) (fun c z => by rw [upd_ne (nD c (hF2 c z)), f2 c (.inl z), f1 c z]) (S3.less fun c z => ?_) ⟨rfl, fun y hy => ?_, ?_, fun c => ?_⟩ (fun c z hf => ?_) (q D a1 a2)
      · rcases z with z | z | z | z
        · exact .inl (.inl (.inl z))
        · exact .inr z
        · exact .inl (.inl (.inr ((hM1 c).mpr z)))
        · exact .inl (.inr ((hM2 c).mpr z))
      · rcases List.mem_cons.mp hy with rfl | hy
        · exact ⟨_, upd_same, .cons rfl (.cons rfl .nil)⟩
        rcases List.mem_cons.mp hy with rfl | hy
        · exact ⟨xs1, by rw [upd_ne a1D]; exact h12, cva_data (dpa_mono e2 _ _ hd1)⟩
        · rw [List.mem_singleton.mp hy]
          exact ⟨xs2, by rw [upd_ne a2D]; exact h2, cva_data hd2⟩
      · show [D, a1, a2].Nodup
        simp only [List.nodup_cons, List.mem_cons, List.not_mem_nil, or_false, not_or, not_false_eq_true, List.nodup_nil, and_true]
        exact ⟨⟨fun e => a1D e.symm, fun e => a2D e.symm⟩, fun e => na2 e.symm⟩
      · show _ ↔ c ∈ [D, a1, a2]
        simp
      · rcases z with z | z | z
        · exact nD c (hF2 c hf) z
        · exact na1 (z ▸ hf)
        · exact na2F (z ▸ hf)
    · subst es2
      obtain ⟨rfl, hM2⟩ := w2
      refine k (.ref D) (fun c => c = D ∨ c = a1) (.ow (RH K D _)) B2 _ δ2 (e1.trans e2) (fun c z => by rw [upd_ne (nD c (hF2 c z)), f2 c (.inl z), f1 c z]) (S3.less fun c z => ?_) ⟨rfl, fun y hy => ?_, ?_, fun c => ?_⟩ (fun c z hf => ?_) (q D a1)
      · rcases z with z | z | z
        · exact .inl (.inl (.inl z))
        · exact .inr z
        · exact .inl (.inl (.inr ((hM1 c).mpr z)))
      · rcases List.mem_cons.mp hy with rfl | hy
        · exact ⟨_, upd_same, .cons rfl (.cons rfl .nil)⟩
        · rw [List.mem_singleton.mp hy]
          exact ⟨xs1, by rw [upd_ne a1D]; exact h12, cva_data (dpa_mono e2 _ _ hd1)⟩
      · show [D, a1].Nodup
        simp only [List.nodup_cons, List.mem_cons, List.not_mem_nil, or_false, not_or, not_false_eq_true, List.nodup_nil, and_true]
        exact fun e => a1D e.symm
      · show _ ↔ c ∈ [D, a1]
        simp
      · rcases z with z | z
        · exact nD c (hF2 c hf) z
        · exact na1 (z ▸ hf)
theorem cells_lst {B H : Hp} {a : Addr} {ds : List PyData} (h : CellAt K B (H a) (.lst (ds.map .d))) (e : Ex B H) : Dp K H (.ref a) (.list ds) := by
  obtain ⟨xs, h1, h2⟩ := h
  exact .lst (SqL.of h1) (dpa_mono e _ _ (cva_data' h2))
theorem deep_two {D a1 a2 : Addr} {ds1 ds2 : List PyData} {cs : Cells} {root : Addr} (hr : root = D) (h0 : (D, Cell.lst [.r a1, .r a2]) ∈ cs) (h1 : (a1, Cell.lst (ds1.map .d)) ∈ cs) (h2 : (a2, Cell.lst (ds2.map .d)) ∈ cs) : DeepD K (RH K root cs) (.list [.list ds1, .list ds2]) := fun v B H M hP e => by
  obtain ⟨xs, g1, g2⟩ := (RH.get hP h0).1
  obtain rfl := hP.1
  subst hr
  have := cva_refs (as := [a1, a2]) g2
  subst this
  exact .lst (SqL.of g1) (.cons (cells_lst (RH.get hP h1).1 e) (.cons (cells_lst (RH.get hP h2).1 e) .nil))
theorem deep_ref {D a1 b : Addr} {ds1 ds2 : List PyData} {cs cs2 : Cells} {root r2 : Addr} (hr : root = D) (h0 : (D, Cell.lst [.r a1, .r b]) ∈ cs) (h1 : (a1, Cell.lst (ds1.map .d)) ∈ cs) (h2 : (b, Cell.lst (ds2.map .d)) ∈ cs2) : DeepD2 K (RH K root cs) (RH K r2 cs2) (.list [.list ds1, .list ds2]) := fun v B H M v' M' hP hP2 e => by
  obtain ⟨xs, g1, g2⟩ := (RH.get hP h0).1
  obtain rfl := hP.1
  subst hr
  have := cva_refs (as := [a1, b]) g2
  subst this
  exact .lst (SqL.of g1) (.cons (cells_lst (RH.get hP h1).1 e) (.cons (cells_lst (RH.get hP2 h2).1 e) .nil))
/-- xs.clear(), xs a list inside -/
def ClrD (R R' : Res) (b : Addr) : Prop := ∀ v B H M, R.P v B H M → ∃ xs, H b = some (.lst xs) ∧ M b ∧ R'.P v B (upd H b (.lst [])) M
theorem ev_clrR (h : EvS K ta δ fun s δ1 => ∃ (b : Addr) (i : Nat) (R R' : Res), s = .ow (RRef b) ∧ δ1[i]? = some (.ow R) ∧ ClrD R R' b ∧ Φ (.pu .none) (δ1.set i (.ow R'))) : EvS K (tBM0 K "list" rClear ta) δ Φ := fun B H σ F Q S k =>
  h B H σ F _ S fun v M s B1 H1 δ1 e1 f1 S1 wk n1 ⟨b, i, R, R', es, hi, hp, q⟩ => by
    subst es
    obtain ⟨rfl, hM⟩ := wk
    have S1' : Sd K B1 H1 σ δ1 F := S1.less fun a z => .inl z
    obtain ⟨v', M', ev, hP, put⟩ := S1'.putR hi
    obtain ⟨xs, g1, g2, g3⟩ := hp _ _ _ _ hP
    obtain ⟨S3, f3⟩ := put b _ R' g2 g3
    exact ⟨.inl ⟨rfl, xs, SqL.of g1⟩, b, xs, rfl, rfl, g1, k .non (fun _ => False) (.pu .none) B1 _ _ e1 (fun c z => (f3 c z).trans (f1 c z)) (S3.less fun c z => z.elim id False.elim) ⟨.non, fun _ z => z⟩ (fun _ z => z.elim) q⟩
theorem clr_d {root a : Addr} {cs : Cells} {cs' : Cell → Cells} {xs : List CV} (hh : Has cs a (.lst xs) cs') : ClrD (RH K root cs) (RH K root (cs' (.lst []))) a := fun v B H M h => by
  obtain ⟨⟨ys, e1, e2⟩, hM⟩ := RH.get h hh.mem
  exact ⟨ys, e1, hM, RH.put h hh ⟨_, rfl, .nil⟩⟩
/-- a, b = x, y, both owned -/
theorem xs_par2 {i j : Nat} (h : EvA K tr δ fun ss δ1 => ∃ R1 R2, ss = [.ow R1, .ow R2] ∧ i < δ1.length ∧ j < δ1.length ∧ d.nx ((δ1.set i (.ow R1)).set j (.ow R2))) : ExS K (tPar i j tr) d δ := fun B H σ F D S L =>
  h B H σ F _ S fun vs M ss B2 H2 δ1 e f S2 ha nF ⟨R1, R2, es, hi, hj, q⟩ => by
    subst es
    cases ha with
    | @cons v1 _ M1 vs1 _ M2 h1 n12 t =>
      cases t with
      | @cons v2 _ M3 vs2 _ M4 h2 n34 t =>
        cases t
        have S3 : Sd K B2 H2 σ δ1 (fun a => (F a ∨ M3 a) ∨ M1 a) := S2.less fun a z => z.elim (fun z => z.elim .inl fun z => .inr (.inr (.inl z))) fun z => .inr (.inl z)
        have S4 := S3.put_ow (i := i) h1 (fun a z f => f.elim (fun f => nF a (.inl z) f) fun f => n12 a z (.inl f)) hi
        have S5 := S4.put_ow (i := j) h2 (fun a z f => nF a (.inr (.inl z)) f) (by rw [List.length_set]; exact hj)
        exact ⟨v1, v2, rfl, L.nx B2 H2 _ _ e f S5 q⟩
/-- three statements, what holds behind them, the rest -/
theorem xs_mid3 {A C D R : TS} (I : List Slot → Prop) (h : ExS K A { d with nx := ExS K C { d with nx := ExS K D { d with nx := I } } } δ) (hR : ∀ δ', I δ' → ExS K R d δ') : ExS K (tSeq A (tSeq C (tSeq D R))) d δ :=
  xs_seq (xs_mid _ h fun δ1 h1 => xs_seq (xs_mid _ h1 fun δ2 h2 => xs_seq (xs_mid I h2 hR)))
end
end Dl

/-! Rk8: max of a list of data that are alike: the first greatest item as it stands. -/
namespace Rk
open PySem PySem.W PySem.SeqAt PySem.Spec PyProof.Rows L2
def rMaxD (K : PySem.W.Frag) : List V → Hp → VK → Prop := fun args H Q => ∃ (a : Addr) (ys : List V) (d : PyData) (ds : List PyData), args = [V.ref a] ∧ SqL K H a ys ∧ DpAll K H ys (d :: ds) ∧ AlikeAll (d :: ds) ∧ PyData.depthAll (d :: ds) ≤ 60 ∧
  ∀ (i : Nat) (y : V), ys[i]? = some y → (d :: ds)[i]? = some (maxD d ds) → Q y H
theorem cr_maxD {X : Cx} (calm : X.calm = true) (room : X.A.units + 64 < cLine) : CallR X (.builtin "max") (rMaxD X.K) := by
  intro pins st σ H args us Q inv rel ask
  obtain ⟨a, ys, d, ds, rfl, hl, hd, al, dep, go⟩ := ask
  obtain ⟨its, rv, isl, _⟩ := inv.list hl
  rw [Vals.ref1 rel]
  obtain ⟨as, rd⟩ := Dp.readsAll inv (d :: ds) ys its hd rv
  have cnt : its.length = ds.length + 1 := by
    have l1 := rv.length
    have l2 := Dl.dpa_len hd
    rw [List.length_cons] at l2
    exact l1.symm.trans l2
  have rd2 : ReadsAll st.heap its.toArray.toList (d :: ds) as := rd
  refine call_max_walkH (iter_listW (A := X.A.in1) (inv.ok.hd calm) isl.isList fun st2 eq2 walk at2 below nowr keep2 => ?_)
  refine ⟨_, _, _, _, _, _, _, st.heap, _, rfl, walk, at2, below, (by rw [List.size_toArray]; omega), nowr, keep2, cmpIn_gt (A := X.A.in1) rd2 al (by show X.A.units + 1 + _ < _; omega), fun u st3 hu moved => ?_⟩
  obtain ⟨heap3, toks3, rfl, keep3⟩ := moved_old eq2 rfl moved
  have fold := argBest_fold (fun x y => dataLt y x) PyData.none d ds ds.length (Nat.le_refl _)
  rw [List.take_length] at fold
  have hn : its.toArray.size - 1 = ds.length := by rw [List.size_toArray]; omega
  rw [hn] at hu
  have hu' : its[argBest (fun i j => dataLt ((d :: ds).getD j .none) ((d :: ds).getD i .none)) ds.length]? = some u := by
    have : its.toArray[argBest (fun i j => dataLt ((d :: ds).getD j .none) ((d :: ds).getD i .none)) ds.length]? = some u := hu
    rwa [List.getElem?_toArray] at this
  generalize argBest (fun i j => dataLt ((d :: ds).getD j .none) ((d :: ds).getD i .none)) ds.length = k at fold hu'
  have hk : k < (d :: ds).length := by rw [List.length_cons]; omega
  obtain ⟨y, hy⟩ : ∃ y, ys[k]? = some y := ⟨_, List.getElem?_eq_getElem (by rw [Dl.dpa_len hd]; exact hk)⟩
  obtain ⟨u2, hu2, ry⟩ := rv.get hy
  rw [hu'] at hu2
  cases hu2
  refine ⟨y, H, inv.kept keep3, ry, go k y hy ?_⟩
  have e2 := fold.2
  rw [List.getD_eq_getElem?_getD, List.getElem?_eq_getElem hk] at e2
  rw [List.getElem?_eq_getElem hk]
  exact congrArg some e2
end Rk
namespace Kk
open PySem PySem.W PySem.Spec PyProof.Rows L2
theorem cr_maxD {X : Cx} {K : PySem.W.Frag} (a : X.calm = true) (b : X.A.units + 64 < cLine) (h : X.K = K := by rfl) : CallR X (.builtin "max") (Rk.rMaxD K) := h ▸ Rk.cr_maxD a b
end Kk

/-! Dl27: dicts whose keys are tuples of ints, data as values; tuples that own; max of data; range(a, b, -1). -/
namespace Dl
open PySem PySem.Spec PyProof.Rows L2
open Evl (Ex)
/-- a tuple of ints that stands -/
def RTup (k : List Int) : Res where
  P v B _ M := (∃ b, v = .ref b ∧ B b = some (.tup (k.map V.int))) ∧ ∀ a, ¬ M a
  loc := fun ⟨⟨b, e, h⟩, hM⟩ ex _ => ⟨⟨b, e, ex b _ h⟩, hM⟩
  live := fun ⟨_, h⟩ b hb => absurd hb (h b)
def ikey (k : List Int) : List Key := k.map Sum.inl
theorem ikey_kV (k : List Int) : (ikey k).map kV = k.map V.int := by unfold ikey; rw [List.map_map]; rfl
theorem ikey_inj {a b : List Int} (h : ikey a = ikey b) : a = b := by
  unfold ikey at h
  exact (List.map_inj_right (fun _ _ e => Sum.inl.inj e)).mp h
inductive KtAll (K : PySem.W.Frag) (B : Hp) : List (List Key × V) → List (List Int × PyData) → Prop
  | nil : KtAll K B [] []
  | cons {k : List Int} {v : V} {d : PyData} {xs : List (List Key × V)} {kvs : List (List Int × PyData)} : Dp K B v d → KtAll K B xs kvs → KtAll K B ((ikey k, v) :: xs) ((k, d) :: kvs)
def lookT (kvs : List (List Int × PyData)) (k : List Int) : Option PyData := (kvs.find? fun kv => decide (kv.1 = k)).map (·.2)
def storeT (kvs : List (List Int × PyData)) (k : List Int) (d : PyData) : List (List Int × PyData) :=
  if (kvs.any fun kv => decide (kv.1 = k)) = true then kvs.map (fun kv => if kv.1 = k then (kv.1, d) else kv) else kvs ++ [(k, d)]
section
variable {K : PySem.W.Frag} {B B' : Hp}
theorem kta_mono (e : Ex B B') : ∀ {xs : List (List Key × V)} {kvs : List (List Int × PyData)}, KtAll K B xs kvs → KtAll K B' xs kvs
  | _, _, .nil => .nil
  | _, _, .cons h t => .cons (dp_mono e _ _ h) (kta_mono e t)
theorem kta_len : ∀ {xs : List (List Key × V)} {kvs : List (List Int × PyData)}, KtAll K B xs kvs → xs.length = kvs.length
  | _, _, .nil => rfl
  | _, _, .cons _ t => by simp [kta_len t]
theorem kta_look {k : List Int} : ∀ {xs : List (List Key × V)} {kvs : List (List Int × PyData)}, KtAll K B xs kvs → (lookT kvs k = none ∧ valV xs (ikey k) = none) ∨ ∃ d v, lookT kvs k = some d ∧ valV xs (ikey k) = some v ∧ Dp K B v d
  | _, _, .nil => .inl ⟨rfl, rfl⟩
  | _, _, @KtAll.cons _ _ i v d xs kvs h t => by
    by_cases e : i = k
    · subst e
      refine .inr ⟨d, v, ?_, valV_pos rfl, h⟩
      simp [lookT, List.find?_cons]
    · have e1 : lookT ((i, d) :: kvs) k = lookT kvs k := by simp [lookT, List.find?_cons, e]
      have e2 : valV ((ikey i, v) :: xs) (ikey k) = valV xs (ikey k) := valV_neg fun z => e (ikey_inj z)
      rw [e1, e2]
      exact kta_look t
theorem kta_any {k : List Int} : ∀ {xs : List (List Key × V)} {kvs : List (List Int × PyData)}, KtAll K B xs kvs → (xs.any fun kv => decide (kv.1 = ikey k)) = (kvs.any fun kv => decide (kv.1 = k))
  | _, _, .nil => rfl
  | _, _, @KtAll.cons _ _ i v d xs kvs h t => by
    rw [List.any_cons, List.any_cons, kta_any t]
    congr 1
    exact decide_eq_decide.mpr ⟨fun z => ikey_inj z, fun z => congrArg ikey z⟩
theorem kta_app : ∀ {xs ys : List (List Key × V)} {kvs lvs : List (List Int × PyData)}, KtAll K B xs kvs → KtAll K B ys lvs → KtAll K B (xs ++ ys) (kvs ++ lvs)
  | _, _, _, _, .nil, s => s
  | _, _, _, _, .cons r t, s => .cons r (kta_app t s)
theorem kta_map {k : List Int} {v : V} {d : PyData} (hd : Dp K B v d) : ∀ {xs : List (List Key × V)} {kvs : List (List Int × PyData)}, KtAll K B xs kvs → KtAll K B (xs.map fun kv => if kv.1 = ikey k then (kv.1, v) else kv) (kvs.map fun kv => if kv.1 = k then (kv.1, d) else kv)
  | _, _, .nil => .nil
  | _, _, @KtAll.cons _ _ i v' d' xs kvs h t => by
    rw [List.map_cons, List.map_cons]
    by_cases e : i = k
    · subst e
      rw [if_pos rfl, if_pos rfl]
      exact .cons hd (kta_map hd t)
    · rw [if_neg (fun z => e (ikey_inj z)), if_neg e]
      exact .cons h (kta_map hd t)
theorem kta_put {k : List Int} {v : V} {d : PyData} (hd : Dp K B v d) {xs : List (List Key × V)} {kvs : List (List Int × PyData)} (h : KtAll K B xs kvs) : KtAll K B (putK xs (ikey k) v) (storeT kvs k d) := by
  unfold putK storeT
  rw [kta_any h]
  split
  · exact kta_map hd h
  · exact kta_app h (.cons hd .nil)
end
/-- a dict with keys of ints, owned -/
def RDt (K : PySem.W.Frag) (kvs : List (List Int × PyData)) : Res where
  P v B H M := ∃ p xs, v = .ref p ∧ H p = some (.dT xs) ∧ KtAll K B xs kvs ∧ ∀ a, M a ↔ a = p
  loc := by
    rintro v B H B' H' M ⟨p, xs, rfl, hp, hd, hM⟩ e k
    exact ⟨p, xs, rfl, by rw [k p ((hM p).mpr rfl)]; exact hp, kta_mono e hd, hM⟩
  live := by
    rintro v B H M ⟨p, xs, rfl, hp, hd, hM⟩ a ha
    rw [(hM a).mp ha, hp]
    exact fun z => nomatch z
/-- .. that stays as it is -/
def RDf (K : PySem.W.Frag) (kvs : List (List Int × PyData)) : Res where
  P v B _ M := (∃ p xs, v = .ref p ∧ B p = some (.dT xs) ∧ KtAll K B xs kvs) ∧ ∀ a, ¬ M a
  loc := fun ⟨⟨p, xs, e, h, hd⟩, hM⟩ ex _ => ⟨⟨p, xs, e, ex p _ h, kta_mono ex hd⟩, hM⟩
  live := fun ⟨_, h⟩ b hb => absurd hb (h b)
def DtAt (K : PySem.W.Frag) (R : Res) (kvs : List (List Int × PyData)) : Prop := ∀ v B H M, R.P v B H M → Ex B H → ∃ p xs, v = .ref p ∧ H p = some (.dT xs) ∧ KtAll K B xs kvs
theorem dt_own {K : PySem.W.Frag} {kvs : List (List Int × PyData)} : DtAt K (RDt K kvs) kvs := fun v B H M ⟨p, xs, e, h, hd, _⟩ _ => ⟨p, xs, e, h, hd⟩
theorem dt_frz {K : PySem.W.Frag} {kvs : List (List Int × PyData)} : DtAt K (RDf K kvs) kvs := fun v B H M ⟨⟨p, xs, e, h, hd⟩, _⟩ ex => ⟨p, xs, e, ex p _ h, hd⟩
section
variable {K : PySem.W.Frag} {w : World} {δ : List Slot} {te ta tb tc tk : TE} {tr : TA} {tt : TT} {t u : TS} {d : Dn} {Φ : Slot → List Slot → Prop}
/-- a key tuple at a name -/
theorem ev_alK {i : Nat} {k : List Int} (hi : δ[i]? = some (.ow (RTup k))) (h : Φ (.ow (RTup k)) δ) : EvS K (tVar i) δ Φ := fun B H σ F Q S kk => by
  obtain ⟨v, M, e, hP, _⟩ := S.opn hi
  exact ⟨v, e, kk v (fun _ => False) (.ow (RTup k)) B H δ (Ex.refl _) (fun _ _ => rfl) (S.less fun a z => z.elim id False.elim) ⟨hP.1, fun _ z => z⟩ (fun _ z => z.elim) h⟩
/-- (i, j) as a key -/
theorem ev_tupK (h : EvS K ta δ fun s1 δ1 => EvS K tb δ1 fun s2 δ2 => ∃ i j : Int, s1 = .pu (.int i) ∧ s2 = .pu (.int j) ∧ Φ (.ow (RTup [i, j])) δ2) : EvS K (tTup (tCons ta (tCons tb tNil))) δ Φ := fun B H σ F Q S kk =>
  h B H σ F _ S fun v1 M1 s1 B1 H1 δ1 e1 f1 S1 w1 n1 p1 => p1 B1 H1 σ F _ (S1.less fun a z => .inl z) fun v2 M2 s2 B2 H2 δ2 e2 f2 S2 w2 n2 ⟨i, j, es1, es2, q⟩ => by
    subst es1 es2
    refine ⟨by show 2 ≤ sizeLine; rw [sizeLine_eq]; decide, fun p hp => ?_⟩
    have g := Gr.new (o := .tup [v1, v2]) S2.bh hp
    have S2' : Sd K B2 H2 σ δ2 F := S2.less fun a z => .inl z
    exact kk _ (fun _ => False) (.ow (RTup [i, j])) _ _ δ2 ((e1.trans e2).trans g.b) (fun a z => by rw [ex_eq g.h (S2'.fl a z), f2 a z, f1 a z]) ((S2'.grow g).less fun a z => z.elim id False.elim) ⟨⟨p, rfl, by rw [upd_same, dp_int_inv w1.1, dp_int_inv w2.1]; rfl⟩, fun _ z => z⟩ (fun _ z => z.elim) q
theorem ev_dnewT (h : Φ (.ow (RDt K [])) δ) : EvS K tDNewT δ Φ := fun B H σ F Q S k p hp => by
  refine k (.ref p) (fun a => a = p) (.ow (RDt K [])) B _ δ (Ex.refl _) (fun a z => upd_ne fun e => S.fl a z (by rw [e]; exact hp)) (sd_own S hp) ⟨p, [], rfl, upd_same, .nil, fun _ => Iff.rfl⟩ (fun a z f => S.fl a f (by rw [z]; exact hp)) h
/-- d[k] -/
theorem ev_tget {j : Nat} (h0 : ∃ R kvs, δ[j]? = some (.ow R) ∧ DtAt K R kvs) (h : EvS K tk δ fun s δ2 => ∃ R kvs k x, δ2[j]? = some (.ow R) ∧ DtAt K R kvs ∧ s = .ow (RTup k) ∧ lookT kvs k = some x ∧ Φ (.pu x) δ2) : EvS K (tDGet (tVar j) tk) δ Φ := fun B H σ F Q S kk => by
  obtain ⟨R0, kvs0, hj0, hd0⟩ := h0
  obtain ⟨v0, M0, ev0, hP0, _⟩ := S.opn hj0
  refine ⟨v0, ev0, h B H σ F _ S fun v M s B2 H2 δ2 e f S2 wk n ⟨R, kvs, k, x, hj, hd, es, hl, q⟩ => ?_⟩
  subst es
  obtain ⟨⟨b, rfl, hb⟩, hM⟩ := wk
  obtain ⟨v1, M1, ev1, hP1, _⟩ := S2.opn hj
  rw [ev0] at ev1
  cases ev1
  obtain ⟨p, xs, rfl, hp, ha⟩ := hd _ _ _ _ hP1 S2.bh
  rcases kta_look (k := k) ha with ⟨a, c⟩ | ⟨y, u, a, c, hy⟩
  · rw [hl] at a; cases a
  · rw [hl] at a
    cases a
    refine ⟨p, u, rfl, by rw [← c]; exact DGet.t hp (by rw [ikey_kV]; exact S2.bh b _ hb), kk u (fun _ => False) (.pu x) B2 H2 δ2 e f (S2.less fun a z => .inl (z.elim id False.elim)) ⟨hy, fun _ z => z⟩ (fun _ z => z.elim) q⟩
/-- k in d -/
theorem ev_tin {j : Nat} (h : EvS K tk δ fun s δ2 => ∃ R kvs k, δ2[j]? = some (.ow R) ∧ DtAt K R kvs ∧ s = .ow (RTup k) ∧ Φ (.pu (.bool (lookT kvs k).isSome)) δ2) : EvS K (tDIn tk (tVar j)) δ Φ := fun B H σ F Q S kk =>
  h B H σ F _ S fun v M s B2 H2 δ2 e f S2 wk n ⟨R, kvs, k, hj, hd, es, q⟩ => by
    subst es
    obtain ⟨⟨b, rfl, hb⟩, hM⟩ := wk
    obtain ⟨v1, M1, ev1, hP1, _⟩ := S2.opn hj
    obtain ⟨p, xs, rfl, hp, ha⟩ := hd _ _ _ _ hP1 S2.bh
    refine ⟨_, ev1, p, valV xs (ikey k), rfl, DGet.t hp (by rw [ikey_kV]; exact S2.bh b _ hb), ?_⟩
    have e2 : (valV xs (ikey k)).isSome = (lookT kvs k).isSome := by
      rcases kta_look (k := k) ha with ⟨a, c⟩ | ⟨_, _, a, c, _⟩ <;> rw [a, c] <;> rfl
    rw [e2]
    exact kk _ (fun _ => False) (.pu (.bool _)) B2 H2 δ2 e f (S2.less fun a z => .inl (z.elim id False.elim)) ⟨.bl _, fun _ z => z⟩ (fun _ z => z.elim) q
/-- d.get(k, x) -/
theorem ev_tget2 {j : Nat} {tx : TE} (h0 : ∃ R kvs, δ[j]? = some (.ow R) ∧ DtAt K R kvs) (h : EvS K tk δ fun s δ2 => ∃ k, s = .ow (RTup k) ∧ EvD K tx δ2 fun x δ3 => ∃ R kvs, δ3[j]? = some (.ow R) ∧ DtAt K R kvs ∧ Φ (.pu ((lookT kvs k).getD x)) δ3) : EvS K (tDGet2 (tVar j) tk tx) δ Φ := fun B H σ F Q S kk => by
  obtain ⟨R0, kvs0, hj0, hd0⟩ := h0
  obtain ⟨v0, M0, ev0, hP0, _⟩ := S.opn hj0
  obtain ⟨p0, xs0, rfl, hp0, _⟩ := hd0 _ _ _ _ hP0 S.bh
  refine ⟨_, ev0, p0, rfl, .inr ⟨xs0, .inl hp0⟩, h B H σ F _ S fun v M s B2 H2 δ2 e f S2 wk n ⟨k, es, p⟩ => ?_⟩
  subst es
  obtain ⟨⟨b, rfl, hb⟩, hM⟩ := wk
  refine p B2 H2 σ F _ (S2.less fun a z => .inl z) fun y x B3 H3 δ3 e3 f3 S3 hx ⟨R, kvs, hj, hd, q⟩ => ?_
  obtain ⟨v1, M1, ev1, hP1, _⟩ := S3.opn hj
  rw [ev0] at ev1
  cases ev1
  obtain ⟨p1, xs, e1, hp, ha⟩ := hd _ _ _ _ hP1 S3.bh
  cases e1
  refine ⟨valV xs (ikey k), DGet.t hp (by rw [ikey_kV]; exact S3.bh b _ (e3 b _ hb)), ?_⟩
  have key : Dp K B3 ((valV xs (ikey k)).getD y) ((lookT kvs k).getD x) := by
    rcases kta_look (k := k) ha with ⟨a, c⟩ | ⟨z, u, a, c, hz⟩
    · rw [a, c]; exact hx
    · rw [a, c]; exact hz
  exact kk _ (fun _ => False) (.pu _) B3 H3 δ3 (e.trans e3) (fun a z => (f3 a z).trans (f a z)) (S3.less fun a z => z.elim id False.elim) ⟨key, fun _ z => z⟩ (fun _ z => z.elim) q
/-- d[k] = e -/
theorem xs_tput {j : Nat} (h : EvD K te δ fun x δ1 => ∃ kvs0, δ1[j]? = some (.ow (RDt K kvs0)) ∧ EvS K tk δ1 fun s δ2 => ∃ (k : List Int) (kvs : List (List Int × PyData)), s = .ow (RTup k) ∧ δ2[j]? = some (.ow (RDt K kvs)) ∧ kvs.length < 100000 ∧ d.nx (δ2.set j (.ow (RDt K (storeT kvs k x))))) : ExS K (sDPut (tVar j) tk te) d δ := fun B H σ F D S L =>
  h B H σ F _ S fun v x B1 H1 δ1 e1 f1 S1 hd ⟨kvs0, h0, p⟩ => by
    obtain ⟨v0, M0, ev0, ⟨p0, xs0, rfl, _⟩, _⟩ := S1.opn h0
    refine ⟨_, ev0, p B1 H1 σ F _ S1 fun u M s B2 H2 δ2 e2 f2 S2 wk n2 ⟨k, kvs, es, hj, hl, q⟩ => ?_⟩
    subst es
    obtain ⟨⟨b, rfl, hb⟩, hMk⟩ := wk
    have S2' : Sd K B2 H2 σ δ2 F := S2.less fun a z => .inl z
    obtain ⟨vv, MM, ev, ⟨pp, xs, rfl, hp, ha, hM⟩, hbM, hF, op⟩ := S2'.opn hj
    rw [ev0] at ev
    cases ev
    have hbp : B2 p0 = none := hbM p0 ((hM p0).mpr rfl)
    refine ⟨p0, _, rfl, DPut.t hp (by rw [ikey_kV]; exact S2.bh b _ hb) (Evl.sz_lt (by rw [kta_len ha]; exact hl)), ?_⟩
    have q2 := op B2 (upd H2 p0 (.dT (putK xs (ikey k) v))) (some (.ref p0)) (.ow (RDt K (storeT kvs k x))) (fun a => a = p0) (Ex.refl _) (fun a u ha' => by
      rw [upd_ne (fun e => by rw [e, hbp] at ha'; cases ha')]
      exact S2'.bh a u ha') (fun a o ha' nm => by rw [upd_ne (fun e => nm ((hM a).mpr e))]; exact ha') (fun _ _ z => .inl z)
      ⟨_, rfl, ⟨p0, _, rfl, upd_same, kta_put (dp_mono e2 _ _ hd) ha, fun _ => Iff.rfl⟩, fun a z => by rw [z]; exact hbp⟩ (fun a z => .inl ((hM a).mpr z))
    rw [set_self ev0] at q2
    exact L.nx B2 _ σ _ (e1.trans e2) (fun a z => by rw [upd_ne (fun e => hF a ((hM a).mpr e) z), f2 a z, f1 a z]) q2 q
/-- max of a list of data -/
theorem ev_maxD (h : EvS K ta δ fun s δ1 => ∃ d ds, den K δ1 s (.list (d :: ds)) ∧ PySem.W.AlikeAll (d :: ds) ∧ PyData.depthAll (d :: ds) ≤ 60 ∧ Φ (.pu (PySem.W.maxD d ds)) δ1) : EvS K (tCB (Rk.rMaxD K) (tCons ta tNil)) δ Φ :=
  ev_cb1P (h.imp fun s δ1 ⟨d, ds, hd, al, dep, q⟩ => ⟨_, _, hd, fun B H u Q e dr k => by
    obtain ⟨p, xs, rfl, hs, ha⟩ := dr.lst e
    refine ⟨p, xs, d, ds, rfl, hs, dpa_mono e _ _ ha, al, dep, fun i y hy hm => ?_⟩
    obtain ⟨y2, hy2, hd2⟩ := dpa_get ha hm
    rw [hy] at hy2
    cases hy2
    exact k y B H (Gr.refl e) hd2, q⟩)
/-- for x in range(a, 0, -1) -/
theorem xs_forDown {j : Nat} (h : EvDs K tr δ fun ds δ1 => ∃ n : Nat, ds = [.int (n : Int), .int 0, .int (-1)] ∧ n ≤ 1000000 ∧ j < δ1.length ∧ ∃ Pv : Nat → List Slot → Prop, Pv 0 δ1 ∧ (∀ (i : Nat) δ', i < n → Pv i δ' → Turn1 K (gName j) t d (.int ((n : Int) - (i : Int))) (Pv (i + 1)) δ') ∧ ∀ δ', Pv n δ' → d.nx δ') : ExS K (tFor (iRng3 tr) (gName j) t) d δ := fun B H σ F D S L =>
  h B H σ F _ S fun vs ds B2 H2 δ1 e f S2 ha ⟨n, ed, hn, hj, Pv, h0, hs, hd⟩ => by
    subst ed
    cases ha with
    | cons a1 t1 =>
    cases t1 with
    | cons a2 t2 =>
    cases t2 with
    | cons a3 t3 =>
    cases t3
    have rg := RgC.neg (i := (n : Int)) (j := 0) (by omega) (by omega) (by omega) (by omega)
    rw [show ((n : Int) - 0).toNat = n by omega] at rg
    refine ⟨n, 0, -1, n, by rw [dp_int_inv a1, dp_int_inv a2, dp_int_inv a3], rg, ?_⟩
    refine for_core (n := n) (item := fun i => .int ((n : Int) - (i : Int))) Pv S2 F (fun a z => z) (L.step e f) h0 (fun i hi B' H' σ' δ' e' f' S' p => ⟨hi, fun x H3 hy => ?_⟩) (fun B' H' σ' δ' e' f' S' p => by exact Nat.le_refl _) hs hd
    obtain ⟨e1, e2⟩ := hy
    subst e1
    refine ⟨B', Gr.refl S'.bh, ?_⟩
    rw [e2, show (n : Int) + (i : Int) * -1 = (n : Int) - (i : Int) by omega]
    exact .int _
/-- (x, a new list) -/
theorem ev_tupO (h : EvD K ta δ fun x δ1 => EvS K tb δ1 fun s δ2 => ∃ ds, s = .ow (RL K ds) ∧ ∀ t l, Φ (.ow (RH K t [(t, .tup [.d x, .r l]), (l, .lst (ds.map .d))])) δ2) : EvS K (tTup (tCons ta (tCons tb tNil))) δ Φ := fun B H σ F Q S kk =>
  h B H σ F _ S fun v1 x B1 H1 δ1 e1 f1 S1 hd p1 => p1 B1 H1 σ F _ S1 fun v2 M2 s2 B2 H2 δ2 e2 f2 S2 w2 n2 ⟨ds, es, q⟩ => by
    subst es
    obtain ⟨l, xs, rfl, hl, ha, hM⟩ := w2
    refine ⟨by show 2 ≤ sizeLine; rw [sizeLine_eq]; decide, fun p hp => ?_⟩
    have S3 := sd_own (o := .tup [v1, .ref l]) S2 hp
    have nlp : l ≠ p := fun e => by rw [e, hp] at hl; cases hl
    have nF : ∀ c, F c → c ≠ p := fun c z e => S2.fl c (.inl z) (by rw [e]; exact hp)
    refine kk (.ref p) (fun c => c = p ∨ c = l) (.ow (RH K p _)) B2 _ δ2 (e1.trans e2) (fun c z => by rw [upd_ne (nF c z), f2 c z, f1 c z]) (S3.less fun c z => ?_) ⟨rfl, fun y hy => ?_, ?_, fun c => ?_⟩ (fun c z hf => ?_) (q p l)
    · rcases z with z | z | z
      · exact .inl (.inl z)
      · exact .inr z
      · exact .inl (.inr ((hM c).mpr z))
    · rcases List.mem_cons.mp hy with rfl | hy
      · exact ⟨_, upd_same, .cons (dp_mono e2 _ _ hd) (.cons rfl .nil)⟩
      · rw [List.mem_singleton.mp hy]
        exact ⟨xs, by rw [upd_ne nlp]; exact hl, cva_data ha⟩
    · show [p, l].Nodup
      simp only [List.nodup_cons, List.mem_cons, List.not_mem_nil, or_false, not_false_eq_true, List.nodup_nil, and_true]
      exact fun e => nlp e.symm
    · show _ ↔ c ∈ [p, l]
      simp
    · rcases z with z | z
      · exact nF c hf z
      · exact n2 c ((hM c).mpr z) hf
end
/-! ### defs that read such a dict -/
/-- data, then a dict: data out, nothing changes -/
def spDc (K : PySem.W.Frag) (n : Nat) (pre : List PyData → List (List Int × PyData) → Prop) (T : List PyData → List (List Int × PyData) → PyData → Prop) : Sp := fun vs H Q _ =>
  ∃ (B : Hp) (as : List V) (p : Addr) (xs : List (List Key × V)) (ds : List PyData) (kvs : List (List Int × PyData)), vs = as ++ [.ref p] ∧ Ex B H ∧ DpAll K B as ds ∧ ds.length = n ∧ B p = some (.dT xs) ∧ KtAll K B xs kvs ∧ pre ds kvs ∧ ∀ v B2 H2 z, Gr B H B2 H2 → Dp K B2 v z → T ds kvs z → Q v H2
theorem spDc_len {K : PySem.W.Frag} {n : Nat} {pre : List PyData → List (List Int × PyData) → Prop} {T : List PyData → List (List Int × PyData) → PyData → Prop} {vs : List V} {H : Hp} {Q : VK} {E : XK} (h : spDc K n pre T vs H Q E) : vs.length = n + 1 := by
  obtain ⟨B, as, p, xs, ds, kvs, rfl, _, ha, hn, _⟩ := h
  rw [List.length_append, dpa_len ha, hn]
  rfl
section
variable {K : PySem.W.Frag} {B B2 : Hp} {p : Addr} {xs : List (List Key × V)}
mutual
/-- data don't lean on a dict -/
theorem dp_less (hp : B p = some (.dT xs)) (hk : ∀ a, a ≠ p → B2 a = B a) : ∀ (d : PyData) (v : V), Dp K B v d → Dp K B2 v d
  | .none, _, h => by cases h; exact .non
  | .bool b, _, h => by cases h; exact .bl b
  | .int i, _, h => by cases h; exact .int i
  | .str x, _, h => by cases h; exact .str x
  | .list ds, _, h => by
    cases h with
    | lst hs ha =>
      refine .lst ?_ (dpa_less hp hk ds _ ha)
      rcases hs with h | h
      · refine .inl ?_
        rcases h with h | ⟨o, h⟩
        · exact .inl (by rw [hk _ (fun e => by rw [e, hp] at h; cases h)]; exact h)
        · exact .inr ⟨o, by rw [hk _ (fun e => by rw [e, hp] at h; cases h)]; exact h⟩
      · exact .inr h
  | .tuple ds, _, h => by
    cases h with
    | tup hs ha =>
      refine .tup ?_ (dpa_less hp hk ds _ ha)
      rcases hs with h | h
      · refine .inl ?_
        rcases h with h | ⟨o, h⟩
        · exact .inl (by rw [hk _ (fun e => by rw [e, hp] at h; cases h)]; exact h)
        · exact .inr ⟨o, by rw [hk _ (fun e => by rw [e, hp] at h; cases h)]; exact h⟩
      · exact .inr h
  | .dict _, _, h => by cases h
theorem dpa_less (hp : B p = some (.dT xs)) (hk : ∀ a, a ≠ p → B2 a = B a) : ∀ (ds : List PyData) (vs : List V), DpAll K B vs ds → DpAll K B2 vs ds
  | [], _, h => by cases h; exact .nil
  | d :: ds, _, h => by
    cases h with
    | cons h1 h2 => exact .cons (dp_less hp hk d _ h1) (dpa_less hp hk ds _ h2)
end
end
section
variable {K : PySem.W.Frag} {w : World} {δ : List Slot} {te t1 t2 t3 : TE} {tr : TA} {t : TS} {d : Dn} {Φ : Slot → List Slot → Prop} {n : Nat} {pre : List PyData → List (List Int × PyData) → Prop} {T : List PyData → List (List Int × PyData) → PyData → Prop} {E : XK}
/-- f(x, y, z, d), d a name that owns the dict -/
theorem ev_callDc {j : Nat} (h : EvD K t1 δ fun x1 δ1 => EvD K t2 δ1 fun x2 δ2 => EvD K t3 δ2 fun x3 δ3 => ∃ kvs, δ3[j]? = some (.ow (RDt K kvs)) ∧ pre [x1, x2, x3] kvs ∧ ∀ z, T [x1, x2, x3] kvs z → Φ (.pu z) δ3) : EvS K (tCall (spDc K 3 pre T) [] E (tCons t1 (tCons t2 (tCons t3 (tCons (tVar j) tNil))))) δ Φ := fun B H σ F Q S kk =>
  h B H σ F _ S fun v1 x1 B1 H1 δ1 e1 f1 S1 d1 p1 => p1 B1 H1 σ F _ S1 fun v2 x2 B2 H2 δ2 e2 f2 S2 d2 p2 => p2 B2 H2 σ F _ S2 fun v3 x3 B3 H3 δ3 e3 f3 S3 d3 ⟨kvs, hj, hp, q⟩ => by
    obtain ⟨vv, M, ev, ⟨p, xs, rfl, hpp, hk, hM⟩, hb, hF, _⟩ := S3.opn hj
    have hbp : B3 p = none := hb p ((hM p).mpr rfl)
    have eB : Ex B3 (upd B3 p (.dT xs)) := Ex.new hbp
    have eH : Ex (upd B3 p (.dT xs)) H3 := fun a o ho => by
      by_cases e : a = p
      · subst e; rw [upd_same] at ho; cases ho; exact hpp
      · rw [upd_ne e] at ho; exact S3.bh a o ho
    refine ⟨_, ev, ?_⟩
    refine ⟨upd B3 p (.dT xs), [v1, v2, v3], p, xs, [x1, x2, x3], kvs, rfl, eH, .cons (dp_mono ((e2.trans e3).trans eB) _ _ d1) (.cons (dp_mono (e3.trans eB) _ _ d2) (.cons (dp_mono eB _ _ d3) .nil)), rfl, upd_same, kta_mono eB hk, hp, fun v B4 H4 z g hz hT => ?_⟩
    have h4p : B4 p = some (.dT xs) := g.b p _ upd_same
    let B5 : Hp := fun a => if a = p then none else B4 a
    have b5 : ∀ a, a ≠ p → B5 a = B4 a := fun a ha => if_neg ha
    have g5 : Gr B3 H3 B5 H4 := by
      refine ⟨fun a o ho => ?_, g.h, fun a o ho => ?_, fun a o ho => ?_⟩
      · have ha : a ≠ p := fun e => by rw [e, hbp] at ho; cases ho
        rw [b5 a ha]
        exact g.b a o (by rw [upd_ne ha]; exact ho)
      · by_cases ha : a = p
        · have : B5 a = none := if_pos ha
          rw [this] at ho; cases ho
        · rw [b5 a ha] at ho
          exact g.bh a o ho
      · by_cases ha : a = p
        · have : B5 a = none := if_pos ha
          rw [this] at ho; cases ho
        · rw [b5 a ha] at ho
          rcases g.nw a o ho with h | h
          · rw [upd_ne ha] at h; exact .inl h
          · exact .inr h
    exact kk v (fun _ => False) (.pu z) B5 H4 δ3 (((e1.trans e2).trans e3).trans g5.b) (fun a z => by rw [ex_eq g5.h (S3.fl a z), f3 a z, f2 a z, f1 a z]) ((S3.grow g5).less fun a z => z.elim id False.elim) ⟨dp_less h4p b5 _ _ hz, fun _ z => z⟩ (fun _ z => z.elim) (q z hT)
abbrev DnDc (T : PyData → Prop) : Dn := { nx := fun _ => T .none, rt := fun s _ => ∃ z, s = .pu z ∧ T z }
theorem body_Dc {N : List Str} {vs : List V} {H : Hp} {Q : VK} (h : spDc K n pre T vs H Q E)
    (hx : ∀ ds kvs, ds.length = n → pre ds kvs → ExS K t (DnDc (T ds kvs)) (ds.map Slot.pu ++ .ow (RDf K kvs) :: List.replicate (N.length - (n + 1)) Slot.non)) : t { nx := fun _ H' => Q .non H', rt := Q } (L2.start N vs) H := by
  obtain ⟨B, as, p, xs, ds, kvs, rfl, eB, ha, hn, hp, hk, hpre, q⟩ := h
  have hl := dpa_len ha
  have est : L2.start N (as ++ [V.ref p]) = as.map some ++ some (.ref p) :: List.replicate (N.length - (n + 1)) none := by
    unfold L2.start
    rw [List.map_append, List.append_assoc, List.length_append, hl, hn]
    rfl
  have S0 : Sd K B H (L2.start N (as ++ [V.ref p])) (ds.map Slot.pu ++ .ow (RDf K kvs) :: List.replicate (N.length - (n + 1)) Slot.non) (FrB B H) := by
    rw [est]
    refine ⟨eB, by simp [hl], fun a z => z.2, fun a z => z.1, fun _ _ => False, fun i s hs => ?_, fun _ _ _ z => z.elim, fun _ _ z => z.elim, fun _ _ z => z.elim⟩
    by_cases c1 : i < ds.length
    · rw [List.getElem?_append_left (by rw [List.length_map]; exact c1), List.getElem?_map] at hs
      cases hdi : ds[i]? with
      | none => rw [hdi] at hs; cases hs
      | some x =>
        rw [hdi] at hs
        cases hs
        obtain ⟨v, hv, hxx⟩ := dpa_get ha hdi
        rw [List.getElem?_append_left (by rw [List.length_map, hl]; exact c1), List.getElem?_map, hv]
        exact ⟨v, rfl, hxx, fun _ z => z⟩
    · rw [List.getElem?_append_right (by rw [List.length_map]; omega), List.length_map] at hs
      rw [List.getElem?_append_right (by rw [List.length_map, hl]; omega), List.length_map, hl]
      cases hz : i - ds.length with
      | zero =>
        rw [hz] at hs
        cases hs
        exact ⟨.ref p, rfl, ⟨⟨p, xs, rfl, hp, hk⟩, fun _ z => z⟩, fun _ z => z.elim⟩
      | succ m =>
        rw [hz, List.getElem?_cons_succ] at hs
        rw [List.eq_of_mem_replicate (List.mem_of_getElem? hs)]
        exact fun _ z => z
  refine hx ds kvs hn hpre B H _ (FrB B H) _ S0 ⟨fun B2 H2 σ2 δ2 e f S hT => q .non B2 H2 .none (gr_end eB e f S) .non hT, fun _ _ _ _ _ _ _ z => z.elim, fun _ _ _ _ _ _ _ z => z.elim, fun v M s B2 H2 σ2 δ2 e f S wk nF ⟨z, es, hT⟩ => ?_⟩
  subst es
  exact q v B2 H2 z (gr_end eB e f (S.less fun a z => .inl z)) wk.1 hT
theorem calDc {P : Program} {mg : Str → Option Value} {base : Heap} {x : Str} {st : Stmt} {N ps : List Str} {k : Nat} (D : Df K mg x st ps) (S : FnScope N ps (defScope st)) (hn : ps.length = n + 1)
    (hbody : ∀ (f : Addr) (cdv : Value) (A : Around) (outer : List Env) (s : Shared) (H : Hp) (E : XK), Room k (A.deeper (envOfC x (defScope st) s.heap.objs.size f cdv)) →
      ∃ t, PSs (cxOf CX0 P w K mg base N x (defScope st) f cdv A outer s H E).nox (defBody st) t ∧ ∀ ds kvs, ds.length = n → pre ds kvs → ExS K t (DnDc (T ds kvs)) (ds.map Slot.pu ++ .ow (RDf K kvs) :: List.replicate (N.length - (n + 1)) Slot.non)) : Cal P w K mg base (k + 1) x (spDc K n pre T) := by
  obtain ⟨f, fd, F, hm, hb⟩ := D.ex
  refine ⟨f, fd, ps, F.ok S (fun vs H Q E h => by rw [spDc_len h, hn]) (fun cdv A outer s H vs Q E hr h => ?_), hm, F.kp, hb⟩
  obtain ⟨t, ht, hx⟩ := hbody f cdv A outer s H E hr
  exact ⟨t, ht, body_Dc h hx⟩
end
end Dl

/-! Dl28: nests of lists that are owned as one; displays and comprehensions of them; a def that reads one. -/
namespace Dl
open PySem PySem.Spec PyProof.Rows L2
open Evl (Ex)
/-- data without lists -/
inductive NoL : PyData → Prop
  | flat {d : PyData} : flatD d = true → NoL d
  | tup {ds : List PyData} : (∀ d ∈ ds, NoL d) → NoL (.tuple ds)
inductive TrA (K : PySem.W.Frag) (B H : Hp) : List V → List PyData → (Addr → Prop) → Prop
  | nil {M : Addr → Prop} : (∀ a, ¬ M a) → TrA K B H [] [] M
  | pu {v : V} {d : PyData} {vs : List V} {ds : List PyData} {M : Addr → Prop} : Dp K B v d → NoL d → TrA K B H vs ds M → TrA K B H (v :: vs) (d :: ds) M
  | ow {a : Addr} {us : List V} {xs : List PyData} {M1 M2 M : Addr → Prop} {vs : List V} {ds : List PyData} : H a = some (.lst us) → TrA K B H us xs M1 → TrA K B H vs ds M2 → ¬ M1 a → ¬ M2 a → (∀ c, M1 c → ¬ M2 c) → (∀ c, M c ↔ c = a ∨ M1 c ∨ M2 c) → TrA K B H (.ref a :: vs) (.list xs :: ds) M
section
variable {K : PySem.W.Frag} {B H B' H' : Hp} {vs us : List V} {ds es : List PyData} {M M1 M2 : Addr → Prop}
theorem tra_mono (e : Ex B B') (h : TrA K B H vs ds M) : (∀ a, M a → H' a = H a) → TrA K B' H' vs ds M := by
  induction h with
  | nil n => exact fun _ => .nil n
  | pu hd hn _ ih => exact fun k => .pu (dp_mono e _ _ hd) hn (ih k)
  | ow ha _ _ n1 n2 nd hM ih1 ih2 => exact fun k => .ow (by rw [k _ ((hM _).mpr (.inl rfl))]; exact ha) (ih1 fun a z => k a ((hM a).mpr (.inr (.inl z)))) (ih2 fun a z => k a ((hM a).mpr (.inr (.inr z)))) n1 n2 nd hM
theorem tra_lst (h : TrA K B H vs ds M) : ∀ a, M a → ∃ us, H a = some (.lst us) := by
  induction h with
  | nil n => exact fun a z => (n a z).elim
  | pu _ _ _ ih => exact ih
  | ow ha _ _ _ _ _ hM ih1 ih2 =>
    intro c z
    rcases (hM c).mp z with rfl | z | z
    · exact ⟨_, ha⟩
    · exact ih1 c z
    · exact ih2 c z
theorem tra_len (h : TrA K B H vs ds M) : vs.length = ds.length := by
  induction h with
  | nil _ => rfl
  | pu _ _ _ ih => simp [ih]
  | ow _ _ _ _ _ _ _ _ ih => simp [ih]
theorem tra_iff (h : TrA K B H vs ds M) (e : ∀ a, M1 a ↔ M a) : TrA K B H vs ds M1 := by rwa [show M1 = M from funext fun a => propext (e a)]
theorem tra_app (h : TrA K B H vs ds M) : ∀ {M1 M2 : Addr → Prop}, TrA K B H us es M1 → (∀ a, M a → ¬ M1 a) → (∀ a, M2 a ↔ M a ∨ M1 a) → TrA K B H (vs ++ us) (ds ++ es) M2 := by
  induction h with
  | nil n => exact fun h1 _ e => tra_iff h1 fun a => by rw [e a]; exact ⟨fun z => z.elim (fun z => (n a z).elim) id, .inr⟩
  | pu hd hn _ ih => exact fun h1 nd e => .pu hd hn (ih h1 nd e)
  | @ow a us xs N1 N2 N vs ds ha t1 t2 n1 n2 nd0 hM ih1 ih2 =>
    intro M1 M2 h1 nd e
    refine .ow (M2 := fun c => N2 c ∨ M1 c) ha t1 (ih2 h1 (fun c z => nd c ((hM c).mpr (.inr (.inr z)))) fun c => Iff.rfl) n1 (fun z => z.elim n2 (nd a ((hM a).mpr (.inl rfl)))) (fun c z z2 => z2.elim (nd0 c z) (nd c ((hM c).mpr (.inr (.inl z))))) fun c => ?_
    rw [e c, hM c]
    constructor
    · rintro ((z | z | z) | z)
      · exact .inl z
      · exact .inr (.inl z)
      · exact .inr (.inr (.inl z))
      · exact .inr (.inr (.inr z))
    · rintro (z | z | z | z)
      · exact .inl (.inl z)
      · exact .inl (.inr (.inl z))
      · exact .inl (.inr (.inr z))
      · exact .inr z
/-- the nest as data, where its lists count as frozen -/
theorem tra_data (e : Ex B B') (h : TrA K B H vs ds M) : (∀ a, M a → B' a = H a) → DpAll K B' vs ds := by
  induction h with
  | nil _ => exact fun _ => .nil
  | pu hd _ _ ih => exact fun k => .cons (dp_mono e _ _ hd) (ih k)
  | ow ha _ _ _ _ _ hM ih1 ih2 => exact fun k => .cons (.lst (SqL.of (by rw [k _ ((hM _).mpr (.inl rfl))]; exact ha)) (ih1 fun a z => k a ((hM a).mpr (.inr (.inl z))))) (ih2 fun a z => k a ((hM a).mpr (.inr (.inr z))))
theorem nola : ∀ {vs : List V} {ds : List PyData}, DpAll K B vs ds → (∀ d ∈ ds, ∀ v, Dp K B v d → Dp K B' v d) → DpAll K B' vs ds
  | _, _, .nil, _ => .nil
  | _, _, .cons h1 h2, ih => .cons (ih _ (List.mem_cons_self ..) _ h1) (nola h2 fun d hd => ih d (List.mem_cons_of_mem _ hd))
theorem nol_low (k : ∀ a, B' a = B a ∨ ∃ us, B a = some (.lst us)) {d : PyData} (h : NoL d) : ∀ v, Dp K B v d → Dp K B' v d := by
  induction h with
  | flat f => exact fun v hd => dp_any f hd
  | @tup ds _ ih =>
    intro v hd
    cases hd with
    | @tup p xs _ hs ha =>
      have hB : ∀ o, B p = some o → (∀ us, o ≠ .lst us) → B' p = some o := fun o ho n => by
        rcases k p with z | ⟨us, z⟩
        · rw [z]; exact ho
        · rw [ho] at z; cases z; exact absurd rfl (n us)
      refine .tup (xs := xs) ?_ ?_
      · rcases hs with h | h
        · refine .inl ?_
          rcases h with h | ⟨o, h⟩
          · exact .inl (hB _ h fun us e => nomatch e)
          · exact .inr ⟨o, hB _ h fun us e => nomatch e⟩
        · exact .inr h
      · exact nola ha ih
theorem tra_low (k : ∀ a, B' a = B a ∨ ∃ us, B a = some (.lst us)) (h : TrA K B H vs ds M) : TrA K B' H vs ds M := by
  induction h with
  | nil n => exact .nil n
  | pu hd hn _ ih => exact .pu (nol_low k hn _ hd) hn ih
  | ow ha _ _ n1 n2 nd hM ih1 ih2 => exact .ow ha ih1 ih2 n1 n2 nd hM
theorem tra_flat : ∀ {vs : List V} {ds : List PyData}, DpAll K B vs ds → (∀ d ∈ ds, NoL d) → (∀ a, ¬ M a) → TrA K B H vs ds M
  | _, _, .nil, _, n => .nil n
  | _, _, .cons h1 h2, hn, n => .pu h1 (hn _ (List.mem_cons_self ..)) (tra_flat h2 (fun d hd => hn d (List.mem_cons_of_mem _ hd)) n)
end
/-- a list, in it lists, all owned -/
def RTr (K : PySem.W.Frag) (ds : List PyData) : Res where
  P v B H M := ∃ a vs M1, v = .ref a ∧ H a = some (.lst vs) ∧ TrA K B H vs ds M1 ∧ ¬ M1 a ∧ ∀ c, M c ↔ c = a ∨ M1 c
  loc := by
    rintro v B H B' H' M ⟨a, vs, M1, rfl, ha, ht, n, hM⟩ e k
    exact ⟨a, vs, M1, rfl, by rw [k a ((hM a).mpr (.inl rfl))]; exact ha, tra_mono e ht fun c z => k c ((hM c).mpr (.inr z)), n, hM⟩
  live := by
    rintro v B H M ⟨a, vs, M1, rfl, ha, ht, n, hM⟩ c hc
    rcases (hM c).mp hc with rfl | z
    · rw [ha]; exact fun z => nomatch z
    · obtain ⟨us, e⟩ := tra_lst ht c z
      rw [e]; exact fun z => nomatch z
section
variable {K : PySem.W.Frag} {w : World} {δ : List Slot} {te ta tb tc : TE} {tr : TA} {tt : TT} {t u : TS} {d : Dn} {Φ : Slot → List Slot → Prop} {ds : List PyData}
theorem rtr_of_rl {v : V} {B H : Hp} {M : Addr → Prop} (hn : ∀ d ∈ ds, NoL d) (h : (RL K ds).P v B H M) : (RTr K ds).P v B H M := by
  obtain ⟨p, xs, rfl, hp, hd, hM⟩ := h
  exact ⟨p, xs, fun _ => False, rfl, hp, tra_flat hd hn fun _ z => z, fun z => z, fun c => by rw [hM c]; exact ⟨.inl, fun z => z.elim id False.elim⟩⟩
theorem deepT : DeepD K (RTr K ds) (.list ds) := fun v B H M ⟨a, vs, M1, e, ha, ht, n, hM⟩ ex => by
  subst e
  exact .lst (SqL.of ha) (tra_data ex ht fun _ _ => rfl)
/-- a slot holds a nest, or data without lists -/
inductive SlT (K : PySem.W.Frag) : Slot → PyData → Prop
  | pu {d : PyData} : NoL d → SlT K (.pu d) d
  | tr {ds : List PyData} : SlT K (.ow (RTr K ds)) (.list ds)
  | rl {ds : List PyData} : (∀ d ∈ ds, NoL d) → SlT K (.ow (RL K ds)) (.list ds)
inductive SlTs (K : PySem.W.Frag) : List Slot → List PyData → Prop
  | nil : SlTs K [] []
  | cons {s : Slot} {x : PyData} {ss : List Slot} {xs : List PyData} : SlT K s x → SlTs K ss xs → SlTs K (s :: ss) (x :: xs)
theorem slt_tra {σ : L2.St} {B H : Hp} {v : V} {s : Slot} {x : PyData} {M : Addr → Prop} (h : VOk K σ δ B H v M s) (hs : SlT K s x) : TrA K B H [v] [x] M := by
  have key : ∀ ds, (RTr K ds).P v B H M → TrA K B H [v] [.list ds] M := fun ds ⟨a, vs, M1, e, ha, ht, n, hM⟩ => by
    subst e
    exact .ow (M2 := fun _ => False) ha ht (.nil fun _ z => z) n (fun z => z) (fun _ _ z => z) fun c => by rw [hM c]; exact ⟨fun z => z.elim .inl fun z => .inr (.inl z), fun z => z.elim .inl fun z => z.elim .inr False.elim⟩
  cases hs with
  | pu hn => exact .pu h.1 hn (.nil h.2)
  | tr => exact key _ h
  | rl hn => exact key _ (rtr_of_rl hn h)
theorem aok_tra {σ : L2.St} {B H : Hp} : ∀ {vs : List V} {ss : List Slot} {xs : List PyData} {M : Addr → Prop}, AOk K σ δ B H vs ss M → SlTs K ss xs → TrA K B H vs xs M
  | _, _, _, _, .nil, h => by cases h; exact .nil fun _ z => z
  | _, _, _, _, .cons h1 h2 h3, h => by
    cases h with
    | cons a b => exact tra_app (vs := [_]) (ds := [_]) (slt_tra h1 a) (aok_tra h3 b) h2 fun _ => Iff.rfl
theorem ev_asT (h : EvS K te δ fun s δ1 => ∃ ds, SlT K s (.list ds) ∧ Φ (.ow (RTr K ds)) δ1) : EvS K te δ Φ := fun B H σ F Q S k =>
  h B H σ F Q S fun v M s B2 H2 δ1 e f S2 w n ⟨ds, hs, q⟩ => by
    refine k v M (.ow (RTr K ds)) B2 H2 δ1 e f S2 ?_ n q
    cases hs with
    | pu hn => cases hn with | flat f => cases f
    | tr => exact w
    | rl hn => exact rtr_of_rl hn w
/-- [a, b, ..] of nests and data -/
theorem ev_lstT (h : EvA K tr δ fun ss δ1 => ∃ xs, SlTs K ss xs ∧ xs.length ≤ 100000 ∧ Φ (.ow (RTr K xs)) δ1) : EvS K (tLst tr) δ Φ := fun B H σ F Q S k =>
  h B H σ F _ S fun vs M ss B2 H2 δ1 e f S2 w n ⟨xs, hs, hl, q⟩ => by
    have ht := aok_tra w hs
    refine ⟨Evl.sz_of (by rw [tra_len ht]; exact hl), fun D hD => ?_⟩
    have nD : ∀ a, M a → a ≠ D := fun a ha z => S2.fl a (.inr ha) (by rw [z]; exact hD)
    have S3 := sd_own (o := .lst vs) S2 hD
    refine k (.ref D) (fun a => M a ∨ a = D) (.ow (RTr K xs)) B2 _ δ1 e (fun a z => ?_) (S3.less fun a z => ?_) ⟨D, vs, M, rfl, upd_same, tra_mono (Ex.refl _) ht fun a z => upd_ne (nD a z), fun z => nD D z rfl, fun c => Or.comm⟩ (fun a z hf => ?_) q
    · rw [upd_ne (fun z2 => S2.fl a (.inl z) (by rw [z2]; exact hD)), f a z]
    · rcases z with z | z | z
      · exact .inl (.inl z)
      · exact .inl (.inr z)
      · exact .inr z
    · rcases z with z | z
      · exact n a z hf
      · exact S2.fl a (.inl hf) (by rw [z]; exact hD)
/-! ### comprehensions -/
def TurnT (K : PySem.W.Frag) (g : TG) (te : TE) (vs : List Nat) (δ : List Slot) (x : PyData) (acc : List PyData) (Pn : List PyData → Prop) : Prop :=
  ∃ as, TgS K g x as ∧ (∀ p ∈ as, p.1 < δ.length ∧ p.1 ∈ vs) ∧ EvS K te (setD (wipeD δ vs) as) fun s δ2 => (∀ i, i ∉ vs → δ2[i]? = δ[i]?) ∧ ∃ y, SlT K s y ∧ acc.length < 100000 ∧ Pn (acc ++ [y])
theorem lc_coreT {n : Nat} {item : Nat → PyData} {g : TG} {J : It} {vs : List Nat} {B H : Hp} {σ : L2.St} {F F0 : Addr → Prop} {Q : VK} (Pv : Nat → List PyData → Prop) (S : Sd K B H σ δ F) (hF0 : ∀ a, F0 a → F a) (hv : ∀ i ∈ vs, ∀ s, δ[i]? = some s → s = .non ∨ ∃ d, s = .pu d)
    (hgo : ∀ i, i < n → ∀ B' H', Ex B B' → (∀ a, F a → H' a = H a) → Sd K B' H' σ δ F → J.go i H' ∧ ∀ x H2, J.yld i H' x H2 → ∃ B2, Gr B' H' B2 H2 ∧ Dp K B2 x (item i))
    (hst : ∀ B' H', Ex B B' → (∀ a, F a → H' a = H a) → Sd K B' H' σ δ F → J.stop n H')
    (h0 : Pv 0 []) (hs : ∀ i acc, i < n → Pv i acc → TurnT K g te vs δ (item i) acc (Pv (i + 1)))
    (hd : ∀ acc v M B2 H2, Pv n acc → Ex B B2 → (∀ a, F a → H2 a = H a) → Sd K B2 H2 σ δ (fun a => F0 a ∨ M a) → (RTr K acc).P v B2 H2 M → (∀ a, M a → ¬ F a) → Q v H2) :
    ∀ D, H D = none → ∃ W : Nat → Nat → Hp → Prop, (∃ m, W 0 m (upd H D (.lst []))) ∧ ∀ i m H, W i m H →
  (J.stop i H ∧ Q (.ref D) H) ∨ (J.go i H ∧ ∃ Nx : Hp → Prop, (∀ H', Nx H' → ∃ m', m' < m ∧ W (i + 1) m' H') ∧ ∀ x H', J.yld i H x H' → g x (wipe σ vs) H' fun σ2 H2 => wipe σ2 vs = wipe σ vs ∧ tYes σ2 H2 fun b H3 =>
    if b = true then te σ2 H3 fun y H4 => ∃ acc, H4 D = some (.lst acc) ∧ acc.length < sizeLine ∧ Nx (upd H4 D (.lst (acc ++ [y]))) else Nx H3) := by
  intro D hD
  let Inv := fun (i : Nat) (H' : Hp) => ∃ B' xs acc M1, Ex B B' ∧ (∀ a, F a → H' a = H a) ∧ Sd K B' H' σ δ (fun a => F a ∨ (a = D ∨ M1 a)) ∧ H' D = some (.lst xs) ∧ TrA K B' H' xs acc M1 ∧ ¬ M1 D ∧ (∀ a, M1 a → ¬ F a) ∧ Pv i acc
  have nF : ¬ F D := fun z => S.fl D z hD
  refine ⟨fun i m H' => m = n - i ∧ i ≤ n ∧ Inv i H', ⟨n, rfl, Nat.zero_le _, B, [], [], fun _ => False, Ex.refl _, fun a z => upd_ne fun e => nF (by rw [← e]; exact z), (sd_own S hD).less fun a z => z.elim .inl fun z => .inr (z.elim id False.elim), upd_same, .nil fun _ z => z, fun z => z, fun _ z => z.elim, h0⟩, ?_⟩
  rintro i m H' ⟨rfl, hi, B', xs, acc, M1, e, f, S', hx, ha, nM1, nMF, p⟩
  by_cases hlt : i < n
  · obtain ⟨g1, g2⟩ := hgo i hlt B' H' e f (S'.less fun a z => .inl z)
    refine .inr ⟨g1, Inv (i + 1), fun H2 q => ⟨n - (i + 1), by omega, rfl, hlt, q⟩, fun x H2 hy => ?_⟩
    obtain ⟨B2, gr, hxd⟩ := g2 x H2 hy
    obtain ⟨as, hg, hl, hb⟩ := hs i acc hlt p
    have S2 := S'.grow gr
    have f2 : ∀ a, F a → H2 a = H a := fun a z => (ex_eq gr.h (S'.fl a (.inl z))).trans (f a z)
    have hx2 : H2 D = some (.lst xs) := gr.h _ _ hx
    refine hg B2 H2 x (wipe σ vs) _ S2.bh hxd fun us hu => ?_
    have agree : ∀ j, j ∉ vs → (setV (wipe σ vs) (as.map (·.1)) us)[j]? = σ[j]? := fun j hj => by
      rw [setV_out (fun z => by
        obtain ⟨q, hq, e1⟩ := List.mem_map.mp z
        exact hj (e1 ▸ (hl q hq).2)), wipe_out hj]
    refine ⟨?_, ?_⟩
    · exact wipe_ext (by rw [setV_len, wipe_length]) agree
    · have S3 : Sd K B2 H2 (setV (wipe σ vs) (as.map (·.1)) us) (setD (wipeD δ vs) as) (fun a => F a ∨ (a = D ∨ M1 a)) := (S2.wiped vs).puts hu fun q hq => by rw [wipeD_len]; exact (hl q hq).1
      show (if true = true then te (setV (wipe σ vs) (as.map (·.1)) us) H2 (fun y H4 => ∃ acc, H4 D = some (HO.lst acc) ∧ acc.length < sizeLine ∧ Inv (i + 1) (upd H4 D (HO.lst (acc ++ [y])))) else Inv (i + 1) H2)
      rw [if_pos rfl]
      refine hb B2 H2 _ _ _ S3 fun y My s B4 H4 δ4 e4 f4 S5 hyd nMy ⟨ag4, yd, hsl, hlen, pn⟩ => ?_
      have hx4 : H4 D = some (.lst xs) := by rw [f4 D (.inr (.inl rfl))]; exact hx2
      have eB : Ex B B4 := (e.trans gr.b).trans e4
      have eB' : Ex B' B4 := gr.b.trans e4
      have nDy : ∀ c, My c → c ≠ D := fun c z e => nMy c z (.inr (.inl e))
      have nDm : ∀ c, M1 c → c ≠ D := fun c z e => nM1 (e ▸ z)
      have hM4 : ∀ c, M1 c → H4 c = H' c := fun c z => by rw [f4 c (.inr (.inr z))]; exact ex_eq gr.h (S'.fl c (.inr (.inr z)))
      have T1 : TrA K B4 (upd H4 D (.lst (xs ++ [y]))) xs acc M1 := tra_mono eB' ha fun c z => by rw [upd_ne (nDm c z)]; exact hM4 c z
      have T2 : TrA K B4 (upd H4 D (.lst (xs ++ [y]))) [y] [yd] My := tra_mono (Ex.refl _) (slt_tra hyd hsl) fun c z => upd_ne (nDy c z)
      refine ⟨xs, hx4, Evl.sz_lt (by rw [tra_len ha]; exact hlen), B4, xs ++ [y], acc ++ [yd], fun c => M1 c ∨ My c, eB, fun a z => ?_, ?_, upd_same, tra_app T1 T2 (fun c z z2 => nMy c z2 (.inr (.inr z))) fun _ => Iff.rfl, fun z => z.elim nM1 fun z => nDy D z rfl, fun c z => z.elim (nMF c) fun z hf => nMy c z (.inl hf), pn⟩
      · rw [upd_ne (fun z2 => nF (by rw [← z2]; exact z)), f4 a (.inl z), f2 a z]
      · have S6 : Sd K B4 H4 σ δ (fun a => (F a ∨ (a = D ∨ M1 a)) ∨ My a) := S'.unwipe (vs := vs) S5 eB' agree ag4 hv
        obtain ⟨ms, h1, h2, h3, h4⟩ := S6.sl
        have hbD : B4 D = none := S6.fb D (.inl (.inr (.inl rfl)))
        have ex : Ex B4 (upd H4 D (.lst (xs ++ [y]))) := fun a u ha' => by
          rw [upd_ne (fun z => by rw [z, hbD] at ha'; cases ha')]
          exact S6.bh a u ha'
        have re : ∀ c, (F c ∨ (c = D ∨ (M1 c ∨ My c))) → ((F c ∨ (c = D ∨ M1 c)) ∨ My c) := fun c z => by
          rcases z with z | z | z | z
          · exact .inl (.inl z)
          · exact .inl (.inr (.inl z))
          · exact .inl (.inr (.inr z))
          · exact .inr z
        refine ⟨ex, S6.len, fun c z => S6.fb c (re c z), fun a z => ?_, ms, fun j s hs => ?_, h2, fun k c q z => h3 k c q (re c z), h4⟩
        · by_cases e5 : a = D
          · rw [e5, upd_same]; exact fun z => nomatch z
          · rw [upd_ne e5]; exact S6.fl a (re a z)
        · have q := h1 j s hs
          cases s with
          | non => exact q
          | pu x => exact q
          | ow R =>
            obtain ⟨v, ev, hP, hb'⟩ := q
            exact ⟨v, ev, R.loc hP (Ex.refl _) fun a z => upd_ne fun e5 => h3 j a z (.inl (.inr (.inl e5))), hb'⟩
          | al _ => exact q
  · have e1 : i = n := by omega
    subst e1
    exact .inl ⟨hst B' H' e f (S'.less fun a z => .inl z), hd acc (.ref D) (fun a => a = D ∨ M1 a) B' H' p e f (S'.less fun a z => z.elim (fun z => .inl (hF0 a z)) .inr) ⟨D, xs, M1, rfl, hx, ha, nM1, fun _ => Iff.rfl⟩ (fun a z z2 => z.elim (fun e => nF (e ▸ z2)) fun z => nMF a z z2)⟩
theorem ev_lcTR {g : TG} {vs : List Nat} (h : EvS K ta δ fun s δ1 => ∃ k : Int, s = .pu (.int k) ∧ -(2 ^ 62) ≤ k ∧ k < 2 ^ 62 ∧ Wip δ1 vs ∧ ∃ Pv : Nat → List PyData → Prop, Pv 0 [] ∧ (∀ (i : Nat) acc, i < k.toNat → Pv i acc → TurnT K g te vs δ1 (.int (i : Int)) acc (Pv (i + 1))) ∧ ∀ acc, Pv k.toNat acc → Φ (.ow (RTr K acc)) δ1) : EvS K (tLc (iRng1 (tCons ta tNil)) g tYes te vs) δ Φ := fun B H σ F Q S kk =>
  h B H σ F _ S fun v M s B2 H2 δ1 e f S2 w n ⟨k, es, hk1, hk2, hw, Pv, h0, hs, hd⟩ => by
    subst es
    have S2' : Sd K B2 H2 σ δ1 F := S2.less fun a z => .inl z
    refine ⟨k, by rw [dp_int_inv w.1], hk1, hk2, ?_⟩
    refine lc_coreT (n := k.toNat) (item := fun i => .int (i : Int)) Pv S2' (F0 := F) (fun a z => z) hw (fun i hi B' H' e' f' S' => ⟨hi, fun x H3 hy => ?_⟩) (fun B' H' e' f' S' => by exact Nat.le_refl _) h0 hs (fun acc v M B3 H3 p e3 f3 S3 hP hM => kk v M (.ow (RTr K acc)) B3 H3 δ1 (e.trans e3) (fun a z => (f3 a z).trans (f a z)) S3 hP hM (hd acc p))
    obtain ⟨e1, e2⟩ := hy
    subst e1
    refine ⟨B', Gr.refl S'.bh, ?_⟩
    rw [e2, Int.zero_add]
    exact .int _
theorem ev_lcTL {g : TG} {vs : List Nat} (h : EvS K ta δ fun s δ1 => ∃ ds, den K δ1 s (.list ds) ∧ Wip δ1 vs ∧ ∃ Pv : Nat → List PyData → Prop, Pv 0 [] ∧ (∀ (i : Nat) y acc, ds[i]? = some y → Pv i acc → TurnT K g te vs δ1 y acc (Pv (i + 1))) ∧ ∀ acc, Pv ds.length acc → Φ (.ow (RTr K acc)) δ1) : EvS K (tLc (iList K ta) g tYes te vs) δ Φ := fun B H σ F Q S kk =>
  h B H σ F _ S fun v M s B2 H2 δ1 e f S2 w n ⟨ds, hden, hw, Pv, h0, hs, hd⟩ => by
    obtain ⟨p, xs0, rfl, hq0, ha0⟩ := (den_dr S2 w hden).lst S2.bh
    refine ⟨p, rfl, ⟨xs0, hq0⟩, ?_⟩
    have key : ∀ B' H', Ex B2 B' → (∀ a, (F a ∨ M a) → H' a = H2 a) → Sd K B' H' σ δ1 (fun a => F a ∨ M a) → ∃ xs, SqL K H' p xs ∧ DpAll K B' xs ds := fun B' H' e' f' S' => by
      have w' : VOk K σ δ1 B' H' (.ref p) M s := w.step e' fun a z => f' a (.inr z)
      obtain ⟨p', xs', e1, hq', ha'⟩ := (den_dr S' w' hden).lst S'.bh
      cases e1
      exact ⟨xs', hq', ha'⟩
    refine lc_coreT (n := ds.length) (item := fun i => ds.getD i .none) Pv S2 (F0 := F) (fun a z => .inl z) hw (fun i hi B' H' e' f' S' => ?_) (fun B' H' e' f' S' => ?_) h0 (fun i acc hi q => hs i _ acc (by rw [List.getD_eq_getElem?_getD, List.getElem?_eq_getElem hi]; rfl) q) (fun acc v M B3 H3 p e3 f3 S3 hP hM => kk v M (.ow (RTr K acc)) B3 H3 δ1 (e.trans e3) (fun a z => (f3 a (.inl z)).trans (f a z)) S3 hP (fun a z z2 => hM a z (.inl z2)) (hd acc p))
    · obtain ⟨xs, hq, ha⟩ := key B' H' e' f' S'
      obtain ⟨w2, hw2, hdw⟩ := dpa_get ha (List.getElem?_eq_getElem hi)
      refine ⟨⟨xs, w2, hq, hw2⟩, fun y H3 hy => ?_⟩
      obtain ⟨e1, e2⟩ := hy
      subst e1
      refine ⟨B', Gr.refl S'.bh, ?_⟩
      have e3 := (e2 xs hq).symm.trans hw2
      cases e3
      rw [List.getD_eq_getElem?_getD, List.getElem?_eq_getElem hi]
      exact hdw
    · obtain ⟨xs, hq, ha⟩ := key B' H' e' f' S'
      exact ⟨xs, hq, Nat.le_of_eq (dpa_len ha)⟩
/-! ### a def that reads a nest and answers with a new one -/
theorem ev_callT {pre : List PyData → Prop} {T : List PyData → Slot → Prop} {E : XK} (h : EvS K ta δ fun s δ1 => ∃ ds, SlT K s (.list ds) ∧ pre [.list ds] ∧ ∀ z, T [.list ds] z → ∃ ds2, SlT K z (.list ds2) ∧ Φ (.ow (RTr K ds2)) δ1) : EvS K (tCall (spN K 1 pre T) [] E (tCons ta tNil)) δ Φ := fun B H σ F Q S k =>
  h B H σ F _ S fun v M s B2 H2 δ1 e f S2 w n ⟨ds, hs, hp, q⟩ => by
    have hR : (RTr K ds).P v B2 H2 M := by
      cases hs with
      | pu hn => cases hn with | flat f => cases f
      | tr => exact w
      | rl hn => exact rtr_of_rl hn w
    obtain ⟨a, vs, M1, rfl, ha, ht, na, hM⟩ := hR
    have hl : ∀ c, M c → ∃ us, H2 c = some (.lst us) := fun c z => by
      rcases (hM c).mp z with rfl | z
      · exact ⟨_, ha⟩
      · exact tra_lst ht c z
    have hbM : ∀ c, M c → B2 c = none := fun c z => S2.fb c (.inr z)
    let B' : Hp := fun c => open Classical in if M c then H2 c else B2 c
    have b1 : ∀ c, M c → B' c = H2 c := fun c z => if_pos z
    have b2 : ∀ c, ¬ M c → B' c = B2 c := fun c z => if_neg z
    have eB : Ex B2 B' := fun c o ho => by
      rw [b2 c fun z => by rw [hbM c z] at ho; cases ho]
      exact ho
    have eH : Ex B' H2 := fun c o ho => by
      by_cases z : M c
      · rw [b1 c z] at ho; exact ho
      · rw [b2 c z] at ho; exact S2.bh c o ho
    show spN K 1 pre T ([.ref a] ++ []) H2 Q E
    rw [List.append_nil]
    refine ⟨B', [.list ds], eH, .cons (.lst (SqL.of (by rw [b1 a ((hM a).mpr (.inl rfl))]; exact ha)) (tra_data eB ht fun c z => b1 c ((hM c).mpr (.inr z)))) .nil, rfl, hp, fun v2 B4 H4 z Mz g hw hMz hT => ?_⟩
    obtain ⟨ds2, hz, qq⟩ := q z hT
    let B5 : Hp := fun c => open Classical in if M c then none else B4 c
    have c1 : ∀ c, M c → B5 c = none := fun c z => if_pos z
    have c2 : ∀ c, ¬ M c → B5 c = B4 c := fun c z => if_neg z
    have g5 : Gr B2 H2 B5 H4 := by
      refine ⟨fun c o ho => ?_, g.h, fun c o ho => ?_, fun c o ho => ?_⟩
      · have hc : ¬ M c := fun z => by rw [hbM c z] at ho; cases ho
        rw [c2 c hc]
        exact g.b c o (by rw [b2 c hc]; exact ho)
      · by_cases z : M c
        · rw [c1 c z] at ho; cases ho
        · rw [c2 c z] at ho; exact g.bh c o ho
      · by_cases z : M c
        · rw [c1 c z] at ho; cases ho
        · rw [c2 c z] at ho
          rcases g.nw c o ho with h | h
          · rw [b2 c z] at h; exact .inl h
          · exact .inr h
    have low : ∀ c, B5 c = B4 c ∨ ∃ us, B4 c = some (.lst us) := fun c => by
      by_cases z : M c
      · obtain ⟨us, e1⟩ := hl c z
        exact .inr ⟨us, g.b c _ (by rw [b1 c z]; exact e1)⟩
      · exact .inl (c2 c z)
    have hR2 : (RTr K ds2).P v2 B4 H4 Mz := by
      cases hz with
      | pu hn => cases hn with | flat f => cases f
      | tr => exact hw
      | rl hn => exact rtr_of_rl hn hw
    obtain ⟨a2, vs2, M2, e2, ha2, ht2, na2, hM2⟩ := hR2
    have hR3 : (RTr K ds2).P v2 B5 H4 Mz := ⟨a2, vs2, M2, e2, ha2, tra_low low ht2, na2, hM2⟩
    have S2' : Sd K B2 H2 σ δ1 F := S2.less fun c z => .inl z
    have hb5 : ∀ c, Mz c → B5 c = none := fun c z => by
      by_cases z2 : M c
      · exact c1 c z2
      · rw [c2 c z2]; exact (hMz c z).2
    exact k v2 Mz (.ow (RTr K ds2)) B5 H4 δ1 (e.trans g5.b) (fun c z => (ex_eq g5.h (S2'.fl c z)).trans (f c z)) (sd_freshM S2' g5 (fun c z => (hMz c z).1) hb5 (fun c z => (RTr K ds2).live hR3 c z)) hR3 (fun c z z2 => S2'.fl c z2 (hMz c z).1) qq
end
end Dl

/-! Dl29: a nest opened: its lists changed by a walk, its parts read. -/
namespace Dl
open PySem PySem.Spec PyProof.Rows L2
open Evl (Ex)
section
variable {K : PySem.W.Frag} {w : World} {δ : List Slot} {te ta tb tc : TE} {tr : TA} {tt : TT} {t u : TS} {d : Dn} {Φ : Slot → List Slot → Prop} {ds : List PyData}
theorem ev_alA {i : Nat} {R : Res} {a : Addr} (hi : δ[i]? = some (.ow R)) (ha : IsAt R a) (h : Φ (.ow (RRef a)) δ) : EvS K (tVar i) δ Φ := fun B H σ F Q S k => by
  obtain ⟨v, M, e, hP, _⟩ := S.opn hi
  exact ⟨v, e, k v (fun _ => False) (.ow (RRef a)) B H δ (Ex.refl _) (fun _ _ => rfl) (S.less fun a z => z.elim id False.elim) ⟨ha _ _ _ _ hP, fun _ z => z⟩ (fun _ z => z.elim) h⟩
def LstAt (R : Res) (b : Addr) : Prop := ∀ v B H M, R.P v B H M → ∃ us, H b = some (.lst us)
theorem ev_isiJ (h : EvS K ta δ fun s δ1 => ∃ (b : Addr) (i : Nat) (R : Res), s = .ow (RRef b) ∧ δ1[i]? = some (.ow R) ∧ LstAt R b ∧ Φ (.pu (.bool true)) δ1) : EvS K (tCB (rIsi K) (tCons ta (tCons (tC (.ty "list")) tNil))) δ Φ := fun B H σ F Q S k =>
  h B H σ F _ S fun v M s B1 H1 δ1 e1 f1 S1 wk n1 ⟨b, i, R, es, hi, hl, q⟩ => by
    subst es
    obtain ⟨rfl, hM⟩ := wk
    obtain ⟨v', M', ev, hP, _⟩ := S1.opn hi
    obtain ⟨us, hu⟩ := hl _ _ _ _ hP
    refine ⟨_, .ty "list", .type "list", .type "list", true, rfl, .ty "list", .base (.lst hu), kit_ty ?_, ?_⟩
    · have g := good_list (.list []) (fun _ e => nomatch e)
      rw [isi_list (x := .list []) (fun _ e => nomatch e)] at g
      exact g
    · exact k _ (fun _ => False) (.pu (.bool true)) B1 H1 δ1 e1 f1 (S1.less fun c z => .inl (z.elim id False.elim)) ⟨.bl _, fun _ z => z⟩ (fun _ z => z.elim) q
/-- lists in a list, all owned, no longer than n -/
def RJ (root : Addr) (as : List Addr) (n : Nat) : Res where
  P v _ H M := v = .ref root ∧ H root = some (.lst (as.map V.ref)) ∧ M root ∧ (∀ a ∈ as, M a ∧ a ≠ root ∧ ∃ us, H a = some (.lst us) ∧ us.length ≤ n) ∧ ∀ a, M a → H a ≠ none
  loc := by
    rintro v B H B' H' M ⟨h0, h1, h2, h3, h4⟩ e k
    refine ⟨h0, by rw [k root h2]; exact h1, h2, fun a ha => ?_, fun a z => by rw [k a z]; exact h4 a z⟩
    obtain ⟨g1, g2, us, g3⟩ := h3 a ha
    exact ⟨g1, g2, us, by rw [k a g1]; exact g3⟩
  live := fun h => h.2.2.2.2
theorem rj_at {root : Addr} {as : List Addr} {n : Nat} : IsAt (RJ root as n) root := fun _ _ _ _ h => h.1
theorem rj_shows {root : Addr} {as : List Addr} {n : Nat} : ShowsR (RJ root as n) root as := fun _ _ _ _ h => h.2.1
theorem rj_lst {root : Addr} {as : List Addr} {n : Nat} {a : Addr} (h : a ∈ as) : LstAt (RJ root as n) a := fun _ _ _ _ hP => by
  obtain ⟨_, _, us, e, _⟩ := hP.2.2.2.1 a h
  exact ⟨us, e⟩
theorem rj_put {root a : Addr} {as : List Addr} {n : Nat} (ha : a ∈ as) {v : V} {B H : Hp} {M : Addr → Prop} (h : (RJ root as n).P v B H M) {ys : List V} (hy : ys.length ≤ n + 1) : (RJ root as (n + 1)).P v B (upd H a (.lst ys)) M := by
  obtain ⟨h0, h1, h2, h3, h4⟩ := h
  have ne : a ≠ root := (h3 a ha).2.1
  refine ⟨h0, by rw [upd_ne ne.symm]; exact h1, h2, fun b hb => ?_, fun c z => ?_⟩
  · obtain ⟨g1, g2, us, g3, g4⟩ := h3 b hb
    refine ⟨g1, g2, ?_⟩
    by_cases e : b = a
    · subst e
      exact ⟨ys, upd_same, hy⟩
    · exact ⟨us, by rw [upd_ne e]; exact g3, by omega⟩
  · by_cases e : c = a
    · subst e
      rw [upd_same]; exact fun z => nomatch z
    · rw [upd_ne e]; exact h4 c z
theorem ev_appJ (h : EvS K ta δ fun s δ1 => ∃ (b : Addr) (i : Nat) (root : Addr) (as : List Addr) (n : Nat), s = .ow (RRef b) ∧ δ1[i]? = some (.ow (RJ root as n)) ∧ b ∈ as ∧ n < 100000 ∧ EvD K te δ1 fun x δ2 => δ2 = δ1 ∧ Φ (.pu .none) (δ1.set i (.ow (RJ root as (n + 1))))) : EvS K (tBM K "list" rAppend ta (tCons te tNil)) δ Φ := fun B H σ F Q S k =>
  h B H σ F _ S fun v M s B1 H1 δ1 e1 f1 S1 wk n1 ⟨b, i, root, as, n, es, hi, hb, hn, p⟩ => by
    subst es
    obtain ⟨rfl, hM⟩ := wk
    obtain ⟨v0, M0, ev0, hP0, _⟩ := S1.opn hi
    obtain ⟨_, _, us, hu, _⟩ := hP0.2.2.2.1 b hb
    refine ⟨.inl ⟨rfl, us, SqL.of hu⟩, p B1 H1 σ _ _ (S1.less fun c z => .inl z) fun y x B2 H2 δ2 e2 f2 S2 hd ⟨ed, q⟩ => ?_⟩
    subst ed
    obtain ⟨v', M', ev, hP, put⟩ := S2.putR hi
    obtain ⟨g1, _, xs, g2, g3⟩ := hP.2.2.2.1 b hb
    obtain ⟨S3, f3⟩ := put b (.lst (xs ++ [y])) (RJ root as (n + 1)) g1 (rj_put hb hP (by rw [List.length_append]; show _ + 1 ≤ _; omega))
    exact ⟨b, xs, y, rfl, rfl, g2, Evl.sz_lt (by omega), k .non (fun _ => False) (.pu .none) B2 _ _ (e1.trans e2) (fun c z => (f3 c z).trans ((f2 c z).trans (f1 c z))) (S3.less fun c z => z.elim id False.elim) ⟨.non, fun _ z => z⟩ (fun _ z => z.elim) q⟩
theorem ev_revJ (h : EvS K ta δ fun s δ1 => ∃ (b : Addr) (i : Nat) (root : Addr) (as : List Addr) (n : Nat), s = .ow (RRef b) ∧ δ1[i]? = some (.ow (RJ root as n)) ∧ b ∈ as ∧ Φ (.pu .none) (δ1.set i (.ow (RJ root as (n + 1))))) : EvS K (tBM0 K "list" rReverse ta) δ Φ := fun B H σ F Q S k =>
  h B H σ F _ S fun v M s B1 H1 δ1 e1 f1 S1 wk n1 ⟨b, i, root, as, n, es, hi, hb, q⟩ => by
    subst es
    obtain ⟨rfl, hM⟩ := wk
    have S1' : Sd K B1 H1 σ δ1 F := S1.less fun a z => .inl z
    obtain ⟨v', M', ev, hP, put⟩ := S1'.putR hi
    obtain ⟨g2, _, xs, g1, g3⟩ := hP.2.2.2.1 b hb
    obtain ⟨S3, f3⟩ := put b (.lst xs.reverse) (RJ root as (n + 1)) g2 (rj_put hb hP (by rw [List.length_reverse]; omega))
    exact ⟨.inl ⟨rfl, xs, SqL.of g1⟩, b, xs, rfl, rfl, g1, k .non (fun _ => False) (.pu .none) B1 _ _ e1 (fun c z => (f3 c z).trans (f1 c z)) (S3.less fun c z => z.elim id False.elim) ⟨.non, fun _ z => z⟩ (fun _ z => z.elim) q⟩
/-! ### opened -/
theorem tra_refs {B H : Hp} {vs : List V} {M : Addr → Prop} {n : Nat} (h : TrA K B H vs ds M) : (∀ d ∈ ds, ∃ xs : List PyData, d = .list xs ∧ xs.length ≤ n) → ∃ as : List Addr, vs = as.map V.ref ∧ as.length = ds.length ∧ ∀ a ∈ as, M a ∧ ∃ us, H a = some (.lst us) ∧ us.length ≤ n := by
  induction h with
  | nil _ => exact fun _ => ⟨[], rfl, rfl, fun _ h => nomatch h⟩
  | pu _ hn _ _ =>
    intro hd
    obtain ⟨xs, rfl, _⟩ := hd _ (List.mem_cons_self ..)
    cases hn with | flat f => cases f
  | ow ha t1 _ _ _ _ hM _ ih =>
    intro hd
    obtain ⟨as, rfl, hl, h⟩ := ih fun d h => hd d (List.mem_cons_of_mem _ h)
    obtain ⟨ys, e, hy⟩ := hd _ (List.mem_cons_self ..)
    cases e
    refine ⟨_ :: as, rfl, congrArg Nat.succ hl, fun b hb => ?_⟩
    rcases List.mem_cons.mp hb with rfl | hb
    · exact ⟨(hM _).mpr (.inl rfl), _, ha, by rw [tra_len t1]; exact hy⟩
    · obtain ⟨g1, g2⟩ := h b hb
      exact ⟨(hM _).mpr (.inr (.inr g1)), g2⟩
theorem tra_at {B H : Hp} {vs : List V} {M : Addr → Prop} (h : TrA K B H vs ds M) : ∀ {i : Nat} {xs : List PyData}, ds[i]? = some (.list xs) → ∃ a us M', vs[i]? = some (.ref a) ∧ H a = some (.lst us) ∧ TrA K B H us xs M' ∧ M a ∧ ∀ c, M' c → M c := by
  induction h with
  | nil _ => exact fun e => nomatch e
  | pu _ hn _ ih =>
    intro i xs e
    cases i with
    | zero => cases e; cases hn with | flat f => cases f
    | succ i => exact ih e
  | ow ha t1 _ _ _ _ hM _ ih =>
    intro i xs e
    cases i with
    | zero => cases e; exact ⟨_, _, _, rfl, ha, t1, (hM _).mpr (.inl rfl), fun c z => (hM c).mpr (.inr (.inl z))⟩
    | succ i =>
      obtain ⟨a, us, M', h1, h2, h3, h4, h5⟩ := ih e
      exact ⟨a, us, M', h1, h2, h3, (hM _).mpr (.inr (.inr h4)), fun c z => (hM c).mpr (.inr (.inr (h5 c z)))⟩
theorem xs_to {i : Nat} {R : Res} (hi : δ[i]? = some (.ow R)) {J : Type} (R' : J → Res) (hR : ∀ v B H M, R.P v B H M → ∃ j, (R' j).P v B H M) (h : ∀ j, ExS K t d (δ.set i (.ow (R' j)))) : ExS K t d δ := fun B H σ F D S L => by
  obtain ⟨v, M, ev, hP, hb, hF, op⟩ := S.opn hi
  obtain ⟨j, hj⟩ := hR _ _ _ _ hP
  have S2 := op B H (some v) (.ow (R' j)) M (Ex.refl _) S.bh (fun _ _ z _ => z) (fun _ _ z => .inl z) ⟨v, rfl, hj, hb⟩ fun _ z => .inl z
  rw [set_self ev] at S2
  exact h j B H σ F D S2 L
theorem rtr_rj {n : Nat} (hd : ∀ d ∈ ds, ∃ xs : List PyData, d = .list xs ∧ xs.length ≤ n) : ∀ v B H M, (RTr K ds).P v B H M → ∃ j : { q : Addr × List Addr // q.2.length = ds.length }, (RJ j.1.1 j.1.2 n).P v B H M := fun v B H M hP => by
  have hlive := (RTr K ds).live hP
  obtain ⟨a, vs, M1, rfl, ha, ht, na, hM⟩ := hP
  obtain ⟨as, rfl, hl, h⟩ := tra_refs ht hd
  refine ⟨⟨(a, as), hl⟩, rfl, ha, (hM a).mpr (.inl rfl), fun b hb => ?_, hlive⟩
  obtain ⟨g1, g2⟩ := h b hb
  exact ⟨(hM b).mpr (.inr g1), fun e => na (by rw [← show b = a from e]; exact g1), g2⟩
/-- a nest whose lists of lists stand at known addresses -/
def ROp (K : PySem.W.Frag) (ds : List PyData) (root : Addr) (bs : List Addr) (css : List (List Addr)) : Res where
  P v B H M := (RTr K ds).P v B H M ∧ v = .ref root ∧ M root ∧ H root = some (.lst (bs.map V.ref)) ∧ ∀ (i : Nat) (b : Addr) (cs : List Addr), bs[i]? = some b → css[i]? = some cs → M b ∧ H b = some (.lst (cs.map V.ref))
  loc := by
    rintro v B H B' H' M ⟨h0, h1, h2, h3, h4⟩ e k
    refine ⟨(RTr K ds).loc h0 e k, h1, h2, by rw [k root h2]; exact h3, fun i b cs hb hc => ?_⟩
    obtain ⟨g1, g2⟩ := h4 i b cs hb hc
    exact ⟨g1, by rw [k b g1]; exact g2⟩
  live := fun h => (RTr K ds).live h.1
theorem rop_at {root : Addr} {bs : List Addr} {css : List (List Addr)} : IsAt (ROp K ds root bs css) root := fun _ _ _ _ h => h.2.1
theorem rop_shows {root : Addr} {bs : List Addr} {css : List (List Addr)} : ShowsR (ROp K ds root bs css) root bs := fun _ _ _ _ h => h.2.2.2.1
theorem rop_shows2 {root b : Addr} {bs cs : List Addr} {css : List (List Addr)} {i : Nat} (hb : bs[i]? = some b) (hc : css[i]? = some cs) : ShowsR (ROp K ds root bs css) b cs := fun _ _ _ _ h => (h.2.2.2.2 i b cs hb hc).2
theorem rop_deep {root b c : Addr} {bs cs : List Addr} {css : List (List Addr)} {i j : Nat} {xs ys : List PyData} (hb : bs[i]? = some b) (hc : css[i]? = some cs) (hj : cs[j]? = some c) (h1 : ds[i]? = some (.list xs)) (h2 : xs[j]? = some (.list ys)) : DeepD2 K (RRef c) (ROp K ds root bs css) (.list ys) := fun v B H M v' M' hc0 hP e => by
  obtain ⟨rfl, _⟩ := hc0
  obtain ⟨⟨a, vs, M1, e0, ha, ht, _, _⟩, e1, _, hr, hk⟩ := hP
  rw [e0] at e1
  cases e1
  rw [ha] at hr
  cases hr
  obtain ⟨b', us, M', g1, g2, g3, _⟩ := tra_at ht h1
  rw [List.getElem?_map, hb] at g1
  cases g1
  have g4 := (hk i b cs hb hc).2
  rw [g2] at g4
  cases g4
  obtain ⟨c', us', M2, k1, k2, k3, _⟩ := tra_at g3 h2
  rw [List.getElem?_map, hj] at k1
  cases k1
  exact .lst (SqL.of k2) (tra_data e k3 fun _ _ => rfl)
/-- what such a nest opens to -/
structure OpJ (ds : List PyData) where
  root : Addr
  bs : List Addr
  css : List (List Addr)
  len : bs.length = ds.length
  len2 : ∀ (i : Nat) (xs : List PyData), ds[i]? = some (.list xs) → ∃ cs : List Addr, css[i]? = some cs ∧ cs.length = xs.length
theorem rtr_rop (hd : ∀ d ∈ ds, ∃ xs : List PyData, d = .list xs ∧ ∀ y ∈ xs, ∃ zs : List PyData, y = .list zs) : ∀ v B H M, (RTr K ds).P v B H M → ∃ j : OpJ ds, (ROp K ds j.root j.bs j.css).P v B H M := fun v B H M hP => by
  have hP0 := hP
  obtain ⟨a, vs, M1, rfl, ha, ht, na, hM⟩ := hP
  have hx : ∃ n : Nat, ∀ d ∈ ds, ∃ xs : List PyData, d = .list xs ∧ xs.length ≤ n := by
    clear hP0 ht
    induction ds with
    | nil => exact ⟨0, fun _ h => nomatch h⟩
    | cons d ds ih =>
      obtain ⟨n, hn⟩ := ih fun x hx => hd x (List.mem_cons_of_mem _ hx)
      obtain ⟨xs, rfl, _⟩ := hd _ (List.mem_cons_self ..)
      refine ⟨n + xs.length, fun x hx => ?_⟩
      rcases List.mem_cons.mp hx with rfl | hx
      · exact ⟨xs, rfl, by omega⟩
      · obtain ⟨ys, e, hy⟩ := hn x hx
        exact ⟨ys, e, by omega⟩
  obtain ⟨n, hn⟩ := hx
  obtain ⟨bs, rfl, hl, hb⟩ := tra_refs ht hn
  -- the lists' own lists
  have key : ∀ i : Nat, ∃ cs : List Addr, ∀ b xs, bs[i]? = some b → ds[i]? = some (.list xs) → H b = some (.lst (cs.map V.ref)) ∧ cs.length = xs.length := fun i => by
    cases h1 : ds[i]? with
    | none => exact ⟨[], fun b xs _ e => nomatch e⟩
    | some d =>
      obtain ⟨xs, rfl, hxs⟩ := hd d (List.mem_of_getElem? h1)
      obtain ⟨b, us, M', g1, g2, g3, _⟩ := tra_at ht h1
      have hz : ∃ m : Nat, ∀ y ∈ xs, ∃ zs : List PyData, y = .list zs ∧ zs.length ≤ m := by
        clear h1 g3
        induction xs with
        | nil => exact ⟨0, fun _ h => nomatch h⟩
        | cons d xs ih =>
          obtain ⟨n, hn⟩ := ih fun x hx => hxs x (List.mem_cons_of_mem _ hx)
          obtain ⟨zs, rfl⟩ := hxs _ (List.mem_cons_self ..)
          refine ⟨n + zs.length, fun x hx => ?_⟩
          rcases List.mem_cons.mp hx with rfl | hx
          · exact ⟨zs, rfl, by omega⟩
          · obtain ⟨ys, e, hy⟩ := hn x hx
            exact ⟨ys, e, by omega⟩
      obtain ⟨m, hm⟩ := hz
      obtain ⟨cs, rfl, hcl, _⟩ := tra_refs g3 hm
      refine ⟨cs, fun b2 xs2 e2 e3 => ?_⟩
      cases e3
      rw [List.getElem?_map, e2] at g1
      cases g1
      exact ⟨g2, hcl⟩
  have hcs := Classical.axiomOfChoice key
  obtain ⟨f, hf⟩ := hcs
  refine ⟨⟨a, bs, (List.range ds.length).map f, hl, fun i xs h => ?_⟩, hP0, rfl, (hM a).mpr (.inl rfl), ha, fun i b cs hb2 hc => ?_⟩
  · have hi := (List.getElem?_eq_some_iff.mp h).1
    have hib : i < bs.length := by omega
    exact ⟨f i, by rw [List.getElem?_map, List.getElem?_range hi]; rfl, (hf i _ xs (List.getElem?_eq_getElem hib) h).2⟩
  · have hi : i < ds.length := by
      have h : i < bs.length := (List.getElem?_eq_some_iff.mp hb2).1
      omega
    rw [List.getElem?_map, List.getElem?_range hi] at hc
    cases hc
    obtain ⟨xs, h1, _⟩ := hd _ (List.getElem_mem hi)
    exact ⟨(hM b).mpr (.inr (hb b (List.mem_of_getElem? hb2)).1), (hf i b xs hb2 (by rw [List.getElem?_eq_getElem hi, h1])).1⟩
theorem tra_no {B H : Hp} {vs : List V} {M : Addr → Prop} (h : TrA K B H vs ds M) : (∀ d ∈ ds, NoL d) → DpAll K B vs ds ∧ ∀ a, ¬ M a := by
  induction h with
  | nil n => exact fun _ => ⟨.nil, n⟩
  | pu hd _ _ ih =>
    intro h
    obtain ⟨a, b⟩ := ih fun d hd => h d (List.mem_cons_of_mem _ hd)
    exact ⟨.cons hd a, b⟩
  | ow _ _ _ _ _ _ _ _ _ =>
    intro h
    cases h _ (List.mem_cons_self ..) with | flat f => cases f
theorem rl_of_rtr {v : V} {B H : Hp} {M : Addr → Prop} (hn : ∀ d ∈ ds, NoL d) (h : (RTr K ds).P v B H M) : (RL K ds).P v B H M := by
  obtain ⟨a, vs, M1, rfl, ha, ht, na, hM⟩ := h
  obtain ⟨h1, h2⟩ := tra_no ht hn
  exact ⟨a, vs, rfl, ha, h1, fun c => by rw [hM c]; exact ⟨fun z => z.elim id fun z => (h2 c z).elim, .inl⟩⟩
/-! ### (x, list): as a list, its second -/
theorem ev_listM (h : EvS K ta δ fun s δ1 => ∃ (x : PyData) (ys : List PyData) (t l : Addr), s = .ow (RH K t [(t, .tup [.d x, .r l]), (l, .lst (ys.map .d))]) ∧ NoL x ∧ (∀ y ∈ ys, NoL y) ∧ Φ (.ow (RTr K [x, .list ys])) δ1) : EvS K (tCB (fun xs H Q => ∃ p ys, xs = [V.ref p] ∧ (SqL K H p ys ∨ SqT K H p ys) ∧ ∀ (l : Addr), H l = none → Q (V.ref l) (upd H l (HO.lst ys))) (tCons ta tNil)) δ Φ := fun B H σ F Q S k =>
  h B H σ F _ S fun v M s B1 H1 δ1 e1 f1 S1 w1 n1 ⟨x, ys, t, l, es, hx, hy, q⟩ => by
    subst es
    have ht := (RH.get w1 (a := t) (c := .tup [.d x, .r l]) (List.mem_cons_self ..))
    have hl := (RH.get w1 (a := l) (c := .lst (ys.map .d)) (List.mem_cons_of_mem _ (List.mem_cons_self ..)))
    obtain ⟨rfl, _, hnd, hM⟩ := w1
    obtain ⟨⟨vs, hv1, hv2⟩, hMt⟩ := ht
    obtain ⟨⟨us, hu1, hu2⟩, hMl⟩ := hl
    cases hv2 with
    | @cons v0 _ _ _ hd0 r0 =>
      cases r0 with
      | cons hr1 r1 =>
        cases r1
        have hr1 : _ = V.ref l := hr1
        subst hr1
        refine ⟨t, _, rfl, .inr (SqT.of hv1), fun D hD => ?_⟩
        have lD : l ≠ D := fun e => by rw [e, hD] at hu1; cases hu1
        have S3 := sd_own (o := .lst [v0, .ref l]) S1 hD
        refine k (.ref D) (fun c => c = D ∨ c = l) (.ow (RTr K [x, .list ys])) B1 _ δ1 e1 (fun c z => ?_) (S3.less fun c z => ?_) ⟨D, _, fun c => c = l, rfl, upd_same, .pu hd0 hx (.ow (M1 := fun _ => False) (M2 := fun _ => False) (by rw [upd_ne lD]; exact hu1) (tra_flat (cva_data' hu2) hy fun _ z => z) (.nil fun _ z => z) (fun z => z) (fun z => z) (fun _ z => z.elim) fun c => ⟨.inl, fun z => z.elim id fun z => z.elim False.elim False.elim⟩), lD.symm, fun c => Iff.rfl⟩ (fun c z hf => ?_) q
        · rw [upd_ne (fun e => S1.fl c (.inl z) (by rw [e]; exact hD)), f1 c z]
        · rcases z with z | z | z
          · exact .inl (.inl z)
          · exact .inr z
          · exact .inl (.inr (by rw [z]; exact hMl))
        · rcases z with z | z
          · exact S1.fl c (.inl hf) (by rw [z]; exact hD)
          · exact n1 c (by rw [z]; exact hMl) hf
theorem ev_ixM (h : EvS K ta δ fun s δ1 => ∃ (x : PyData) (ys : List PyData) (t l : Addr), s = .ow (RH K t [(t, .tup [.d x, .r l]), (l, .lst (ys.map .d))]) ∧ Φ (.ow (RL K ys)) δ1) : EvS K (tOp (rIxT K) ta (tC (.int 1))) δ Φ := fun B H σ F Q S k =>
  h B H σ F _ S fun v M s B1 H1 δ1 e1 f1 S1 w1 n1 ⟨x, ys, t, l, es, q⟩ => by
    subst es
    have ht := (RH.get w1 (a := t) (c := .tup [.d x, .r l]) (List.mem_cons_self ..))
    have hl := (RH.get w1 (a := l) (c := .lst (ys.map .d)) (List.mem_cons_of_mem _ (List.mem_cons_self ..)))
    obtain ⟨rfl, _, hnd, hM⟩ := w1
    obtain ⟨⟨vs, hv1, hv2⟩, hMt⟩ := ht
    obtain ⟨⟨us, hu1, hu2⟩, hMl⟩ := hl
    cases hv2 with
    | @cons v0 _ _ _ hd0 r0 =>
      cases r0 with
      | cons hr1 r1 =>
        cases r1
        have hr1 : _ = V.ref l := hr1
        subst hr1
        exact ⟨t, _, 1, .ref l, rfl, rfl, SqT.of hv1, rfl, k (.ref l) (fun c => c = l) (.ow (RL K ys)) B1 H1 δ1 e1 f1 (S1.less fun c z => z.elim .inl fun z => .inr (by rw [z]; exact hMl)) ⟨l, us, rfl, hu1, cva_data' hu2, fun c => Iff.rfl⟩ (fun c z hf => n1 c (by rw [z]; exact hMl) hf) q⟩
/-- the first of it -/
theorem ev_ixM0 (h : EvS K ta δ fun s δ1 => ∃ (x : PyData) (ys : List PyData) (t l : Addr), s = .ow (RH K t [(t, .tup [.d x, .r l]), (l, .lst (ys.map .d))]) ∧ Φ (.pu x) δ1) : EvS K (tOp (rIxT K) ta (tC (.int 0))) δ Φ := fun B H σ F Q S k =>
  h B H σ F _ S fun v M s B1 H1 δ1 e1 f1 S1 w1 n1 ⟨x, ys, t, l, es, q⟩ => by
    subst es
    have ht := (RH.get w1 (a := t) (c := .tup [.d x, .r l]) (List.mem_cons_self ..))
    obtain ⟨rfl, _, hnd, hM⟩ := w1
    obtain ⟨⟨vs, hv1, hv2⟩, hMt⟩ := ht
    cases hv2 with
    | @cons v0 _ _ _ hd0 r0 =>
      cases r0 with | cons hr1 r1 =>
      cases r1
      exact ⟨t, _, 0, v0, rfl, rfl, SqT.of hv1, rfl, k v0 (fun _ => False) (.pu x) B1 H1 δ1 e1 f1 (S1.less fun c z => .inl (z.elim id False.elim)) ⟨hd0, fun _ z => z⟩ (fun _ z => z.elim) q⟩
end
end Dl

/-! Rk9: sorted of a list of (int, int, text). -/
namespace Rk
open PySem PySem.Spec PyProof.Rows L2 PyProof.Rows.G
abbrev Row3 := Int × Int × Str
def key3 (r : Row3) : List (Int ⊕ List Nat) := [.inl r.1, .inl r.2.1, .inr r.2.2.cps.toList]
def before3 (a b : Row3) : Bool := lexLt itemOrd (key3 a) (key3 b)
theorem key3_inj {a b : Row3} (h : key3 a = key3 b) : a = b := by
  obtain ⟨a1, a2, ⟨a3⟩⟩ := a
  obtain ⟨b1, b2, ⟨b3⟩⟩ := b
  simp only [key3, List.cons.injEq, Sum.inl.injEq, Sum.inr.injEq, and_true] at h
  obtain ⟨rfl, rfl, h3⟩ := h
  rw [Array.toList_inj.mp h3]
theorem before3_anti {a b : Row3} (h1 : before3 a b = false) (h2 : before3 b a = false) : a = b := key3_inj (lex_total _ _ h1 h2)
def rSortedR (K : PySem.W.Frag) : List V → Hp → VK → Prop := fun vs H Q => ∃ (a : Addr) (xs : List V) (k : V → Row3), vs = [V.ref a] ∧ SqL K H a xs ∧ (∀ x ∈ xs, ∃ t, x = V.ref t ∧ SqT K H t [.int (k x).1, .int (k x).2.1, .str (k x).2.2]) ∧
  ∀ ys p, ys.Perm xs → ys.Pairwise (fun x y => before3 (k y) (k x) = false) → H p = none → Q (.ref p) (upd H p (.lst ys))
def sh3 : Nat → Bool := fun i => i == 2
theorem tupsOf_ex {h : Heap} {shape : Nat → Bool} : ∀ {vs : List Value}, (∀ v ∈ vs, ∃ f, TupOf h shape v f) → ∃ fs, TupsOf h shape vs fs
  | [], _ => ⟨[], .nil⟩
  | v :: vs, H => by
    obtain ⟨f, hf⟩ := H v (List.mem_cons_self ..)
    obtain ⟨fs, hfs⟩ := tupsOf_ex fun v hv => H v (List.mem_cons_of_mem _ hv)
    exact ⟨f :: fs, .cons hf hfs⟩
theorem tupKeyC_of3 {h : Heap} {shape : Nat → Bool} {a : Addr} {o : Obj} {xs : Array Value} {n : Nat} {l : List (Int ⊕ List Nat)} (ho : h.get? a = some o) (hc : o.cls = .type "tuple") (hd : o.data = .seq xs n)
    (hi : tupItems shape 0 xs.toList = some l) : tupKeyC h shape (.ref a) = some l := by
  unfold tupKeyC
  have e1 : isTupObj h (.ref a) = true := by simp [isTupObj, ho, hc]
  rw [if_pos e1]
  simp only [tupKey, ho, hd]
  exact hi
theorem cr_sortedR {X : Cx} {K : PySem.W.Frag} (hK : X.K = K := by rfl) : CallR X (.builtin "sorted") (rSortedR K) := by
  subst hK
  intro pins s σ H vs us Q I r h
  obtain ⟨a, xs, k, rfl, hs, hx, q⟩ := h
  obtain ⟨its, rv, hl, hz⟩ := I.list hs
  obtain ⟨u, rfl, ru⟩ := vals1 r
  obtain rfl : u = Value.ref a := ru
  obtain ⟨e1, e2⟩ := refs_back rv fun x m => by
    obtain ⟨t, e, _⟩ := hx x m
    exact ⟨t, e⟩
  have tup : ∀ v ∈ its, ∃ t o n t1 t2 t3, v = .ref t ∧ s.heap.get? t = some o ∧ o.cls = .type "tuple" ∧ o.data = .seq #[.int (k (backV v)).1 t1, .int (k (backV v)).2.1 t2, .str (k (backV v)).2.2 t3] n := fun v hv => by
    obtain ⟨t, rfl⟩ := e2 v hv
    have hm : V.ref t ∈ xs := by rw [e1]; exact List.mem_map.mpr ⟨_, hv, rfl⟩
    obtain ⟨t', e, ht⟩ := hx _ hm
    cases e
    obtain ⟨its2, r2, p, _⟩ := I.tuple ht
    obtain ⟨u1, u2, u3, rfl, r1, rj, rk⟩ : ∃ u1 u2 u3, its2 = [u1, u2, u3] ∧ RelV (V.int (k (V.ref t)).1) u1 ∧ RelV (V.int (k (V.ref t)).2.1) u2 ∧ RelV (V.str (k (V.ref t)).2.2) u3 := by
      cases r2 with
      | cons h1 r2 =>
        obtain ⟨u2, u3, rfl, h2, h3⟩ := vals2 r2
        exact ⟨_, _, _, rfl, h1, h2, h3⟩
    obtain ⟨o, ho, hc, n, hd⟩ := p
    obtain ⟨t1, rfl⟩ := r1
    obtain ⟨t2, rfl⟩ := rj
    obtain ⟨t3, rfl⟩ := rk
    exact ⟨t, o, n, t1, t2, t3, rfl, ho, hc, hd⟩
  have key : ∀ v ∈ its, tupKeyC s.heap sh3 v = some (key3 (k (backV v))) := fun v hv => by
    obtain ⟨t, o, n, t1, t2, t3, rfl, ho, hc, hd⟩ := tup v hv
    exact tupKeyC_of3 ho hc hd rfl
  obtain ⟨fs, hfs⟩ := tupsOf_ex (h := s.heap) (shape := sh3) fun v hv => by
    obtain ⟨t, o, n, t1, t2, t3, rfl, ho, hc, hd⟩ := tup v hv
    exact ⟨_, t, o, _, n, rfl, ho, hc, hd, rfl, fun _ => ⟨_, _, rfl⟩, fun e => nomatch e⟩
  refine sorted_tups (shape := sh3) hl.isList hfs (fun v hv => ⟨_, key v hv⟩) (by rw [← rv.length]; exact hz) fun st' hp hst _ => ?_
  have hl1 : (arrOf st').toList.Perm (its.zip its) := by
    have e := Array.perm_iff_toList_perm.mp hp
    rw [pairsOf_toList] at e
    exact e
  have self : ∀ p ∈ (arrOf st').toList, p.1 = p.2 ∧ p.1 ∈ its := fun p hp => mem_zip_self (hl1.mem_iff.mp hp)
  have hout : (((arrOf st').map (·.2)).toList).Perm its := by
    rw [Array.toList_map]
    have := hl1.map (·.2)
    rwa [show (its.zip its).map (·.2) = its from by rw [List.map_snd_zip (Nat.le_refl _)]] at this
  have hmem : ∀ v ∈ ((arrOf st').map (·.2)).toList, v ∈ its := fun v hv => hout.mem_iff.mp hv
  have h3 : ∀ u ∈ ((arrOf st').map (·.2)).toList, ∃ a, u = Value.ref a := fun u hu => e2 u (hmem u hu)
  have hpm : ((((arrOf st').map (·.2)).toList).map backV).Perm xs := by
    rw [e1]
    exact hout.map backV
  have hsr : ((((arrOf st').map (·.2)).toList).map backV).Pairwise (fun x y => before3 (k y) (k x) = false) := by
    rw [List.pairwise_iff_getElem]
    intro i j hi hj hij
    simp only [List.length_map, Array.length_toList, Array.size_map] at hi hj
    have hsz : (pairsOf its).size = (arrOf st').size := by
      rw [← Array.length_toList, ← Array.length_toList, pairsOf_toList]
      exact hl1.length_eq.symm
    have e := hst i j (Nat.le_of_lt hij) (by rw [hsz]; exact hj)
    have kk : ∀ m (hm : m < (arrOf st').size), KK (tupKindC s.heap sh3) (arrOf st') m = key3 (k (backV ((arrOf st')[m]).2)) := fun m hm => by
      have hm2 := self _ (Array.getElem_mem_toList hm)
      unfold KK
      rw [Array.getElem?_eq_getElem hm]
      show (tupKeyC s.heap sh3 _).getD [] = _
      rw [key _ hm2.2, hm2.1]
      rfl
    rw [kk i hi, kk j hj] at e
    simp only [List.getElem_map, Array.getElem_toList, Array.getElem_map]
    exact e
  have hlay := sortedAll_at s.heap its ((arrOf st').map (·.2))
  obtain ⟨n, hn⟩ := hlay
  have kp : ∀ b o, s.heap.get? b = some o → (sortedAll s.heap its ((arrOf st').map (·.2))).get? b = some o := fun b o e => sortedAll_old e
  refine ⟨.ref (s.heap.objs.size + 1), upd H (s.heap.objs.size + 1) (.lst ((((arrOf st').map (·.2)).toList).map backV)), I.laid (t' := s.toks) kp (Nat.le_succ _) ⟨?_, _, n, vals_back h3, ?_⟩, rfl, q _ _ hpm hsr (I.hok.fresh (Nat.le_succ _))⟩
  · rw [hpm.length_eq]
    exact hz
  · exact hn
def rSortedR2 (K : PySem.W.Frag) : List V → Hp → VK → Prop := fun vs H Q => ∃ (a : Addr) (xs : List V) (rs : List Row3), vs = [V.ref a] ∧ SqL K H a xs ∧ xs.length = rs.length ∧ (∀ (i : Nat) (x : V) (r : Row3), xs[i]? = some x → rs[i]? = some r → ∃ t, x = V.ref t ∧ SqT K H t [.int r.1, .int r.2.1, .str r.2.2]) ∧
  ∀ (zs : List (V × Row3)) (p : Addr), zs.Perm (xs.zip rs) → zs.Pairwise (fun x y => before3 y.2 x.2 = false) → H p = none → Q (.ref p) (upd H p (.lst (zs.map (·.1))))
theorem cr_sortedR2 {X : Cx} {K : PySem.W.Frag} (hK : X.K = K := by rfl) : CallR X (.builtin "sorted") (rSortedR2 K) := by
  subst hK
  intro pins s σ H vs us Q I r h
  obtain ⟨a, xs, rs, e, hs, hl, hx, q⟩ := h
  let W : V → Row3 → Prop := fun x r => ∃ t, x = V.ref t ∧ SqT X.K H t [.int r.1, .int r.2.1, .str r.2.2]
  let k : V → Row3 := fun x => open Classical in if h : ∃ r, W x r then h.choose else (0, 0, "")
  have hk : ∀ x r, W x r → k x = r := fun x r hw => by
    have h : ∃ r, W x r := ⟨r, hw⟩
    have e1 : k x = h.choose := dif_pos h
    obtain ⟨t, e2, h2⟩ := h.choose_spec
    obtain ⟨t', e3, h3⟩ := hw
    rw [e2] at e3
    cases e3
    have e4 := I.tuple_inj h2 h3
    simp only [List.cons.injEq, V.int.injEq, V.str.injEq, and_true] at e4
    rw [e1]
    exact Prod.ext e4.1 (Prod.ext e4.2.1 e4.2.2)
  have hz : xs.map (fun y => (y, k y)) = xs.zip rs := by
    apply List.ext_getElem
    · rw [List.length_map, List.length_zip]; omega
    · intro i h1 h2
      rw [List.length_map] at h1
      rw [List.getElem_map, List.getElem_zip]
      rw [hk _ _ (hx i _ rs[i] (List.getElem?_eq_getElem h1) (List.getElem?_eq_getElem (by omega)))]
  refine cr_sortedR rfl pins s σ H vs us Q I r ⟨a, xs, k, e, hs, fun x m => ?_, fun ys p hp hsr hn => ?_⟩
  · obtain ⟨i, hi, rfl⟩ := List.mem_iff_getElem.mp m
    obtain ⟨t, e1, e2⟩ := hx i _ rs[i] (List.getElem?_eq_getElem hi) (List.getElem?_eq_getElem (by omega))
    rw [hk _ _ ⟨t, e1, e2⟩]
    exact ⟨t, e1, e2⟩
  · have := q (ys.map fun y => (y, k y)) p (by rw [← hz]; exact hp.map _) (List.pairwise_map.mpr hsr) hn
    rwa [List.map_map, show ((fun x : V × Row3 => x.1) ∘ fun y => (y, k y)) = id from rfl, List.map_id] at this
end Rk

/-! Dl30: sorted of rows; a list of new lists by a comprehension over references. -/
namespace Dl
open PySem PySem.Spec PyProof.Rows L2
open Evl (Ex)
def rowD3 (r : Rk.Row3) : PyData := .tuple [.int r.1, .int r.2.1, .str r.2.2]
section
variable {K : PySem.W.Frag} {w : World} {δ : List Slot} {te ta tb tc : TE} {tr : TA} {tt : TT} {t u : TS} {d : Dn} {Φ : Slot → List Slot → Prop} {ds : List PyData}
theorem row3_dp {B : Hp} {x : V} {r : Rk.Row3} (h : Dp K B x (rowD3 r)) : ∃ t, x = V.ref t ∧ SqT K B t [.int r.1, .int r.2.1, .str r.2.2] := by
  cases h with
  | @tup p xs _ hs ha =>
    cases ha with
    | cons h1 r1 =>
    cases r1 with
    | cons h2 r2 =>
    cases r2 with
    | cons h3 r3 =>
    cases r3
    rw [dp_int_inv h1, dp_int_inv h2, dp_str_inv h3] at hs
    exact ⟨p, rfl, hs⟩
theorem dpa_rows {B : Hp} : ∀ {zs : List (V × Rk.Row3)}, (∀ z ∈ zs, Dp K B z.1 (rowD3 z.2)) → DpAll K B (zs.map (·.1)) ((zs.map (·.2)).map rowD3)
  | [], _ => .nil
  | z :: zs, h => .cons (h z (List.mem_cons_self ..)) (dpa_rows fun y hy => h y (List.mem_cons_of_mem _ hy))
theorem ev_sortR (h : EvS K ta δ fun s δ1 => ∃ rs : List Rk.Row3, den K δ1 s (.list (rs.map rowD3)) ∧ ∀ rs' : List Rk.Row3, rs'.Perm rs → rs'.Pairwise (fun x y => Rk.before3 y x = false) → Φ (.ow (RL K (rs'.map rowD3))) δ1) : EvS K (tCB (Rk.rSortedR2 K) (tCons ta tNil)) δ Φ := fun B H σ F Q S kk =>
  h B H σ F _ S fun v M s B2 H2 δ1 e f S2 w n ⟨rs, hden, q⟩ => by
    obtain ⟨p, xs, rfl, hq, ha⟩ := (den_dr S2 w hden).lst S2.bh
    have hl : xs.length = rs.length := by rw [dpa_len ha, List.length_map]
    have at_ : ∀ (i : Nat) (x : V) (r : Rk.Row3), xs[i]? = some x → rs[i]? = some r → Dp K B2 x (rowD3 r) := fun i x r hx hr => by
      obtain ⟨x', h1, h2⟩ := dpa_get ha (i := i) (d := rowD3 r) (by rw [List.getElem?_map, hr]; rfl)
      rw [hx] at h1
      cases h1
      exact h2
    refine ⟨p, xs, rs, rfl, hq, hl, fun i x r hx hr => ?_, fun zs D hp hs hD => ?_⟩
    · obtain ⟨t, e1, e2⟩ := row3_dp (at_ i x r hx hr)
      exact ⟨t, e1, Evl.ex_t S2.bh e2⟩
    · have hz : ∀ z ∈ zs, Dp K B2 z.1 (rowD3 z.2) := fun z hz => by
        obtain ⟨i, hi⟩ := List.mem_iff_getElem?.mp (hp.mem_iff.mp hz)
        rw [List.getElem?_zip_eq_some] at hi
        exact at_ i _ _ hi.1 hi.2
      have hpr : (zs.map (·.2)).Perm rs := by
        have := hp.map (·.2)
        rwa [List.map_snd_zip (by omega)] at this
      have S3 := sd_own (o := .lst (zs.map (·.1))) S2 hD
      refine kk (.ref D) (fun c => c = D) (.ow (RL K ((zs.map (·.2)).map rowD3))) B2 _ δ1 e (fun c z => ?_) (S3.less fun c z => ?_) ⟨D, _, rfl, upd_same, dpa_rows hz, fun _ => Iff.rfl⟩ (fun c z hf => ?_) (q _ hpr (List.pairwise_map.mpr hs))
      · rw [upd_ne (fun z2 => S2.fl c (.inl z) (by rw [z2]; exact hD)), f c z]
      · rcases z with z | z
        · exact .inl (.inl z)
        · exact .inr z
      · exact S2.fl c (.inl hf) (by rw [z]; exact hD)
theorem perm_sorted {a b : List Rk.Row3} (hp : a.Perm b) (ha : a.Pairwise (fun x y => Rk.before3 y x = false)) (hb : b.Pairwise (fun x y => Rk.before3 y x = false)) : a = b :=
  hp.eq_of_pairwise (fun x y _ _ h1 h2 => Rk.before3_anti h2 h1) ha hb
/-- [e for x in references ..], what e tells is owned -/
theorem ev_lcTG {j : Nat} (h : EvS K ta δ fun s δ1 => ∃ (p : Addr) (as : List Addr) (i0 : Nat) (R : Res), s = .al i0 ∧ δ1[i0]? = some (.ow R) ∧ IsAt R p ∧ ShowsR R p as ∧ Wip δ1 [j] ∧ j < δ1.length ∧ ∃ Pv : Nat → List PyData → Prop, Pv 0 [] ∧
    (∀ (i : Nat) (a : Addr) acc, as[i]? = some a → Pv i acc → EvS K te (δ1.set j (.ow (RRef a))) fun s2 δ2 => (∀ k, k ∉ [j] → δ2[k]? = δ1[k]?) ∧ ∃ y, SlT K s2 y ∧ acc.length < 100000 ∧ Pv (i + 1) (acc ++ [y])) ∧
    ∀ acc, Pv as.length acc → Φ (.ow (RTr K acc)) δ1) : EvS K (tLc (iList K ta) (gName j) tYes te [j]) δ Φ := fun B H σ F Q S kk =>
  h B H σ F _ S fun v M s B2 H2 δ1 e f S2 w n0 ⟨p, as, i0, R, es, hi0, hat, hsh, hv, hj, Pv, h0, hs, hd⟩ => by
    subst es
    have S2' : Sd K B2 H2 σ δ1 F := S2.less fun a z => .inl z
    have look : ∀ B' H', Sd K B' H' σ δ1 F → v = .ref p ∧ H' p = some (.lst (as.map V.ref)) := fun B' H' S' => by
      obtain ⟨v', M', ev, hP, _⟩ := S'.opn hi0
      rw [w.1] at ev
      cases ev
      exact ⟨hat _ _ _ _ hP, hsh _ _ _ _ hP⟩
    obtain ⟨rfl, hl0⟩ := look B2 H2 S2'
    refine ⟨p, rfl, ⟨_, SqL.of hl0⟩, fun D hD => ?_⟩
    let Inv := fun (i : Nat) (H' : Hp) => ∃ B' xs acc M1, Ex B2 B' ∧ (∀ a, F a → H' a = H2 a) ∧ Sd K B' H' σ δ1 (fun a => F a ∨ (a = D ∨ M1 a)) ∧ H' D = some (.lst xs) ∧ TrA K B' H' xs acc M1 ∧ ¬ M1 D ∧ (∀ a, M1 a → ¬ F a) ∧ Pv i acc
    have nF : ¬ F D := fun z => S2'.fl D z hD
    refine ⟨fun i m H' => m = as.length - i ∧ i ≤ as.length ∧ Inv i H', ⟨as.length, rfl, Nat.zero_le _, B2, [], [], fun _ => False, Ex.refl _, fun a z => upd_ne fun e => nF (by rw [← e]; exact z), (sd_own S2' hD).less fun a z => z.elim .inl fun z => .inr (z.elim id False.elim), upd_same, .nil fun _ z => z, fun z => z, fun _ z => z.elim, h0⟩, ?_⟩
    rintro i m H' ⟨rfl, hi, B', xs, acc, M1, e', f', S', hx, ha, nM1, nMF, pv⟩
    have hl' := (look B' H' (S'.less fun a z => .inl z)).2
    by_cases hlt : i < as.length
    · have hw : (as.map V.ref)[i]? = some (.ref as[i]) := by rw [List.getElem?_map, List.getElem?_eq_getElem hlt]; rfl
      refine .inr ⟨⟨_, _, SqL.of hl', hw⟩, Inv (i + 1), fun H2 q => ⟨as.length - (i + 1), by omega, rfl, hlt, q⟩, fun x H3 hy => ?_⟩
      obtain ⟨e1, e2⟩ := hy
      subst e1
      have e3 := (e2 _ (SqL.of hl')).symm.trans hw
      cases e3
      have hσl := S'.len
      have agree : ∀ k, k ∉ [j] → ((wipe σ [j]).set j (some (.ref as[i])))[k]? = σ[k]? := fun k hk => by
        rw [List.getElem?_set_ne (fun z => hk (by rw [z]; exact List.mem_singleton.mpr rfl)), wipe_out hk]
      refine ⟨?_, ?_⟩
      · exact wipe_ext (by rw [List.length_set, wipe_length]) agree
      · have S3 : Sd K B' H3 ((wipe σ [j]).set j (some (.ref as[i]))) (δ1.set j (.ow (RRef as[i]))) (fun a => F a ∨ (a = D ∨ M1 a)) := by
          have q := (S'.wiped [j]).put (i := j) (x := some (.ref as[i])) (s := .ow (RRef as[i])) (M := fun _ => False) ⟨_, rfl, ⟨rfl, fun _ z => z⟩, fun _ z => z.elim⟩ (fun _ _ _ _ _ z => z.elim) (fun _ z => z.elim) (by rw [wipeD_len]; exact hj)
          have e4 : (wipeD δ1 [j]).set j (.ow (RRef as[i])) = δ1.set j (.ow (RRef as[i])) := by
            show (δ1.set j .non).set j _ = _
            rw [List.set_set]
          rw [e4] at q
          exact q
        show (if true = true then te ((wipe σ [j]).set j (some (.ref as[i]))) H3 (fun y H4 => ∃ acc, H4 D = some (HO.lst acc) ∧ acc.length < sizeLine ∧ Inv (i + 1) (upd H4 D (HO.lst (acc ++ [y])))) else Inv (i + 1) H3)
        rw [if_pos rfl]
        refine hs i _ acc (List.getElem?_eq_getElem hlt) pv B' H3 _ _ _ S3 fun y My s B4 H4 δ4 e4 f4 S5 hyd nMy ⟨ag4, yd, hsl, hlen, pn⟩ => ?_
        have hx4 : H4 D = some (.lst xs) := by rw [f4 D (.inr (.inl rfl))]; exact hx
        have eB : Ex B2 B4 := e'.trans e4
        have nDy : ∀ c, My c → c ≠ D := fun c z e => nMy c z (.inr (.inl e))
        have nDm : ∀ c, M1 c → c ≠ D := fun c z e => nM1 (e ▸ z)
        have hM4 : ∀ c, M1 c → H4 c = H3 c := fun c z => f4 c (.inr (.inr z))
        have T1 : TrA K B4 (upd H4 D (.lst (xs ++ [y]))) xs acc M1 := tra_mono e4 ha fun c z => by rw [upd_ne (nDm c z)]; exact hM4 c z
        have T2 : TrA K B4 (upd H4 D (.lst (xs ++ [y]))) [y] [yd] My := tra_mono (Ex.refl _) (slt_tra hyd hsl) fun c z => upd_ne (nDy c z)
        refine ⟨xs, hx4, Evl.sz_lt (by rw [tra_len ha]; exact hlen), B4, xs ++ [y], acc ++ [yd], fun c => M1 c ∨ My c, eB, fun a z => ?_, ?_, upd_same, tra_app T1 T2 (fun c z z2 => nMy c z2 (.inr (.inr z))) fun _ => Iff.rfl, fun z => z.elim nM1 fun z => nDy D z rfl, fun c z => z.elim (nMF c) fun z hf => nMy c z (.inl hf), pn⟩
        · rw [upd_ne (fun z2 => nF (by rw [← z2]; exact z)), f4 a (.inl z), f' a z]
        · have S6 : Sd K B4 H4 σ δ1 (fun a => (F a ∨ (a = D ∨ M1 a)) ∨ My a) := S'.unwipe (vs := [j]) S5 e4 agree ag4 hv
          obtain ⟨ms, h1, h2, h3, h4⟩ := S6.sl
          have hbD : B4 D = none := S6.fb D (.inl (.inr (.inl rfl)))
          have ex : Ex B4 (upd H4 D (.lst (xs ++ [y]))) := fun a u ha' => by
            rw [upd_ne (fun z => by rw [z, hbD] at ha'; cases ha')]
            exact S6.bh a u ha'
          have re : ∀ c, (F c ∨ (c = D ∨ (M1 c ∨ My c))) → ((F c ∨ (c = D ∨ M1 c)) ∨ My c) := fun c z => by
            rcases z with z | z | z | z
            · exact .inl (.inl z)
            · exact .inl (.inr (.inl z))
            · exact .inl (.inr (.inr z))
            · exact .inr z
          refine ⟨ex, S6.len, fun c z => S6.fb c (re c z), fun a z => ?_, ms, fun j s hs => ?_, h2, fun k c q z => h3 k c q (re c z), h4⟩
          · by_cases e5 : a = D
            · rw [e5, upd_same]; exact fun z => nomatch z
            · rw [upd_ne e5]; exact S6.fl a (re a z)
          · have q := h1 j s hs
            cases s with
            | non => exact q
            | pu x => exact q
            | ow R =>
              obtain ⟨v, ev, hP, hb'⟩ := q
              exact ⟨v, ev, R.loc hP (Ex.refl _) fun a z => upd_ne fun e5 => h3 j a z (.inl (.inr (.inl e5))), hb'⟩
            | al _ => exact q
    · have e1 : i = as.length := by omega
      subst e1
      exact .inl ⟨⟨_, SqL.of hl', by rw [List.length_map]; exact Nat.le_refl _⟩, kk (.ref D) (fun a => a = D ∨ M1 a) (.ow (RTr K acc)) B' H' δ1 (e.trans e') (fun a z => (f' a z).trans (f a z)) S' ⟨D, xs, M1, rfl, hx, ha, nM1, fun _ => Iff.rfl⟩ (fun a z z2 => z.elim (fun e => nF (e ▸ z2)) fun z => nMF a z z2) (hd acc pv)⟩
/-- a, b = (x, y), both owned, the pair laid -/
theorem xs_tup2 {i j : Nat} (h : EvA K tr δ fun ss δ1 => ∃ R1 R2, ss = [.ow R1, .ow R2] ∧ i < δ1.length ∧ j < δ1.length ∧ d.nx ((δ1.set i (.ow R1)).set j (.ow R2))) : ExS K (tAsg (tTup tr) (gTup K 2 (gCons (gName i) (gCons (gName j) gNil)))) d δ := fun B H σ F D S L =>
  h B H σ F _ S fun vs M ss B2 H2 δ1 e f S2 ha nF ⟨R1, R2, es, hi, hj, q⟩ => by
    subst es
    cases ha with
    | @cons v1 _ M1 vs1 _ M2 h1 n12 t =>
      cases t with
      | @cons v2 _ M3 vs2 _ M4 h2 n34 t =>
        cases t
        refine ⟨by show 2 ≤ sizeLine; rw [sizeLine_eq]; decide, fun T hT => ?_⟩
        have S0 := sd_own (o := .tup [v1, v2]) S2 hT
        have nT : ∀ c, H2 c ≠ none → c ≠ T := fun c hc e => hc (by rw [e]; exact hT)
        have h1' : R1.P v1 B2 (upd H2 T (.tup [v1, v2])) M1 := R1.loc h1 (Ex.refl _) fun c z => upd_ne (nT c (R1.live h1 c z))
        have h2' : R2.P v2 B2 (upd H2 T (.tup [v1, v2])) M3 := R2.loc h2 (Ex.refl _) fun c z => upd_ne (nT c (R2.live h2 c z))
        have S3 : Sd K B2 (upd H2 T (.tup [v1, v2])) σ δ1 (fun a => (F a ∨ M3 a) ∨ M1 a) := S0.less fun a z => .inl (z.elim (fun z => z.elim .inl fun z => .inr (.inr (.inl z))) fun z => .inr (.inl z))
        have S4 := S3.put_ow (i := i) h1' (fun a z f => f.elim (fun f => nF a (.inl z) f) fun f => n12 a z (.inl f)) hi
        have S5 := S4.put_ow (i := j) h2' (fun a z f => nF a (.inr (.inl z)) f) (by rw [List.length_set]; exact hj)
        refine ⟨T, [v1, v2], rfl, SqT.of upd_same, rfl, v1, [v2], rfl, v2, [], rfl, rfl, ?_⟩
        exact L.nx B2 _ _ _ e (fun c z => by rw [upd_ne (nT c (S2.fl c (.inl z))), f c z]) S5 q
/-- two lists in a list -/
def RTw (K : PySem.W.Frag) (la lb : List PyData) (D a1 a2 : Addr) : Res := RH K D [(D, .lst [.r a1, .r a2]), (a1, .lst (la.map .d)), (a2, .lst (lb.map .d))]
theorem rtr_two {la lb : List PyData} (ha : ∀ d ∈ la, NoL d) (hb : ∀ d ∈ lb, NoL d) : ∀ v B H M, (RTr K [.list la, .list lb]).P v B H M → ∃ j : Addr × Addr × Addr, (RTw K la lb j.1 j.2.1 j.2.2).P v B H M := fun v B H M hP => by
  obtain ⟨D, vs, M1, rfl, hD, ht, nD, hM⟩ := hP
  cases ht with
  | pu _ hn _ => cases hn with | flat f => cases f
  | @ow a1 us1 _ N1 N2 _ vs1 _ g1 t1 t2 n1 n2 nd hM1 =>
    cases t2 with
    | pu _ hn _ => cases hn with | flat f => cases f
    | @ow a2 us2 _ N3 N4 _ vs2 _ g2 t3 t4 n3 n4 nd2 hM2 =>
      cases t4 with
      | nil no =>
        obtain ⟨d1, z1⟩ := tra_no t1 ha
        obtain ⟨d2, z2⟩ := tra_no t3 hb
        have hm : ∀ c, M c ↔ c = D ∨ c = a1 ∨ c = a2 := fun c => by
          rw [hM c, hM1 c, hM2 c]
          constructor
          · rintro (z | z | z | z | z | z)
            · exact .inl z
            · exact .inr (.inl z)
            · exact (z1 c z).elim
            · exact .inr (.inr z)
            · exact (z2 c z).elim
            · exact (no c z).elim
          · rintro (z | z | z)
            · exact .inl z
            · exact .inr (.inl z)
            · exact .inr (.inr (.inr (.inl z)))
        have e1 : D ≠ a1 := fun e => nD ((hM1 D).mpr (.inl e))
        have e2 : D ≠ a2 := fun e => nD ((hM1 D).mpr (.inr (.inr ((hM2 D).mpr (.inl e)))))
        have e3 : a1 ≠ a2 := fun e => n2 ((hM2 a1).mpr (.inl e))
        refine ⟨(D, a1, a2), rfl, fun y hy => ?_, ?_, fun c => ?_⟩
        · rcases List.mem_cons.mp hy with rfl | hy
          · exact ⟨_, hD, .cons rfl (.cons rfl .nil)⟩
          rcases List.mem_cons.mp hy with rfl | hy
          · exact ⟨us1, g1, cva_data d1⟩
          · rw [List.mem_singleton.mp hy]
            exact ⟨us2, g2, cva_data d2⟩
        · show [D, a1, a2].Nodup
          simp only [List.nodup_cons, List.mem_cons, List.not_mem_nil, or_false, not_or, not_false_eq_true, List.nodup_nil, and_true]
          exact ⟨⟨e1, e2⟩, e3⟩
        · rw [hm c]
          show _ ↔ c ∈ [D, a1, a2]
          simp
theorem tw_at {la lb : List PyData} {D a1 a2 : Addr} : IsAt (RTw K la lb D a1 a2) D := rh_at
theorem tw_refs {la lb : List PyData} {D a1 a2 : Addr} : ShowsR (RTw K la lb D a1 a2) D [a1, a2] := shows_r (as := [a1, a2]) (List.mem_cons_self ..)
theorem tw_a {la lb : List PyData} {D a1 a2 : Addr} : Shows K (RTw K la lb D a1 a2) a1 la := shows_d (List.mem_cons_of_mem _ (List.mem_cons_self ..))
theorem tw_b {la lb : List PyData} {D a1 a2 : Addr} : Shows K (RTw K la lb D a1 a2) a2 lb := shows_d (List.mem_cons_of_mem _ (List.mem_cons_of_mem _ (List.mem_cons_self ..)))
end
end Dl

/-! Rk10: sorted of a set of ints, up to a thousand of them. -/
namespace Rk
open PySem PySem.Spec PyProof.Rows L2 PyProof.V
section
variable {P : Program} {w : World} {A : Around} {E : Value → Shared → Prop} {s : Shared} {a : Addr}
theorem sorted_setL {S : Int → Bool} {n : Nat} {Q : Value → Shared → Prop} (R : SetR w s.heap a S n) (hh : A.handled = none) (hz : n ≤ 1000)
    (hQ : ∀ s' p (out : Array Value) (c : Nat) (ns : List Int), (∀ b o, s.heap.get? b = some o → s'.heap.get? b = some o) → s'.gens = s.gens → s'.os = s.os → s.heap.objs.size ≤ p →
      s'.heap.get? p = some (seqObj "list" out c) → IntsAre out.toList ns → ns.Pairwise (· < ·) → (∀ k, k ∈ ns ↔ S k = true) → ns.length = n → Q (.ref p) s') :
    wpAny (model P w) A (call (.builtin "sorted") [.ref a]) Q E s := by
  obtain ⟨o, es, ep, t, ho, hex, hd, g, nd, hm, hb, hf, hn, hr, hl⟩ := R
  refine Calls.call_function_entry kind_sorted plain_sorted entry_sorted (args_sorted1 _) ?_
  unfold Builtin.«sorted»
  refine wpAny_bind (m := checkCount "sorted" 1 1 _) (wpAny_pure ?_)
  refine wpAny_bind (collect_set (A := A.in1) hh ⟨o, ho, hex.1, hd⟩ hf hb hr hl fun s1 vs k1 hz1 g1 o1 pm => ?_)
  have hvl : vs.length = n := by rw [pm.length_eq, List.length_map, Array.length_toList]; exact hn
  have hI : IntsAre vs (vs.map Builtin.Re.reRawOf) := ints_of vs fun v hv => by
    obtain ⟨e, he, q⟩ := List.mem_map.mp (pm.mem_iff.mp hv)
    obtain ⟨k, tk, h1, _⟩ := g e he
    exact ⟨k, tk, by rw [← q]; exact h1⟩
  have pk : (vs.map Builtin.Re.reRawOf).Perm (es.toList.map keyOf) := by
    have q := pm.map Builtin.Re.reRawOf
    rw [List.map_map] at q
    exact q
  have hvs : vs.length ≤ sizeLine := by rw [hvl, sizeLine_eq]; omega
  refine wpAny_bind (wpAny_newList ?_ hvs)
  have hoL : (s1.heap.push (seqObj "list" vs.toArray 0)).get? s1.heap.objs.size = some (seqObj "list" vs.toArray 0) := Heap.get?_push_size _ rfl
  refine wpAny_bind (wpAny_holding (wpAny_call_entry slot_list_sort ⟨_, hoL, rfl⟩ entry_list_sort (SrtO.list_sort_ord SrtO.swo_int hoL hvs (fun h2 => SrtO.ints_sortable hI h2) fun out a1 a2 => ⟨_, rfl, ?_⟩) (args_list_sort _)))
  obtain ⟨q1, q2, q3⟩ := SrtO.ints_out hI a1 a2
  obtain ⟨c, hc⟩ := sortedHeap_at (vs := vs) (out := out.toArray) hoL
  have pn : (out.map SrtO.iv).Perm (es.toList.map keyOf) := q2.trans pk
  refine wpAny_pure ⟨_, rfl, hQ _ s1.heap.objs.size out.toArray c (out.map SrtO.iv) (fun b u e => ?_) g1 o1 hz1 hc q1 (lt_of_le_nodup _ q3 (pn.nodup_iff.mpr nd)) (fun k => by rw [pn.mem_iff, ← hm k]) ?_⟩
  · have q := k1 b u e
    have hlt := Heap.lt_size q
    show (sortedHeap (s1.heap.push (seqObj "list" vs.toArray 0)) s1.heap.objs.size vs out.toArray).get? b = some u
    rw [sortedHeap_old (Nat.ne_of_lt hlt) (by rw [size_push']; exact Nat.lt_succ_of_lt hlt)]
    exact Heap.get?_push_of_some _ q
  · rw [pn.length_eq, List.length_map, Array.length_toList]; exact hn
end
def rSortedSetL (w : World) : List V → Hp → VK → Prop := fun vs H Q => ∃ (a : Addr) (S : Int → Bool) (n : Nat), vs = [V.ref a] ∧ H a = some (SetO w a S n) ∧ n ≤ 1000 ∧
  ∀ (ns : List Int) (p : Addr), ns.Pairwise (· < ·) → (∀ k : Int, k ∈ ns ↔ S k = true) → ns.length = n → H p = none → Q (.ref p) (upd H p (.lst (ns.map V.int)))
theorem cr_sortedSetL {X : Cx} {w : World} (hc : X.calm = true) (hw : X.w = w := by rfl) : CallR X (.builtin "sorted") (rSortedSetL w) := by
  subst hw
  intro pins s σ H vs us Q I r h
  obtain ⟨a, S, n, rfl, ha, hz, q⟩ := h
  have R := setO_get I ha
  rw [Vals.ref1 r]
  refine sorted_setL R (I.ok.hd hc) hz fun s' p out c ns k g o hp hg hi hs hm hl => ?_
  have hlen : (ns.map V.int).length ≤ sizeLine := by rw [List.length_map, hl, sizeLine_eq]; omega
  have hn : H p = none := I.hok.fresh hp
  have J : Inv X pins σ (upd H p (.lst (ns.map V.int))) { s with heap := s'.heap, gens := s'.gens, drawn := s'.drawn, toks := s'.toks } :=
    I.call (ch := []) (Un.laid k hp hn) (I.hok.laid k hp ⟨hlen, out.toList, c, vals_of_ints hi, hg⟩) (by rw [g]; exact I.bare) (fun _ z => nomatch z)
  have e : s' = { s with heap := s'.heap, gens := s'.gens, drawn := s'.drawn, toks := s'.toks } := by
    cases s'
    cases s
    cases o
    rfl
  rw [e]
  exact ⟨.ref p, _, J, rfl, q ns p hs hm hl hn⟩
end Rk

/-! Dl31: sorted(set(xs)) of up to a thousand ints; a, b = t of a new (x, list). -/
namespace Dl
open PySem PySem.Spec PyProof.Rows L2
open Evl (Ex)
section
variable {K : PySem.W.Frag} {w : World} {δ : List Slot} {te ta tb tc : TE} {tr : TA} {tt : TT} {t u : TS} {d : Dn} {Φ : Slot → List Slot → Prop} {ds : List PyData}
theorem ev_sortedSetL (h : EvS K te δ fun s δ1 => ∃ ns : List Int, (den K δ1 s (.list (ns.map PyData.int)) ∨ den K δ1 s (.tuple (ns.map PyData.int))) ∧ ns.length ≤ 1000 ∧ ∀ ns' : List Int, ns'.Pairwise (· < ·) → (∀ k, k ∈ ns' ↔ k ∈ ns) → Φ (.ow (RL K (ns'.map PyData.int))) δ1) : EvS K (tCB (Rk.rSortedSetL w) (tCons (tCB (Rk.rSetI K w) (tCons te tNil)) tNil)) δ Φ := fun B H σ F Q S kk =>
  h B H σ F _ S fun v M s B1 H1 δ1 e1 f1 S1 w1 n1 ⟨ns, hd, hl, q⟩ => by
    have hdr : Dr K B1 H1 v (.list (ns.map PyData.int)) ∨ Dr K B1 H1 v (.tuple (ns.map PyData.int)) := hd.imp (den_dr S1 w1) (den_dr S1 w1)
    obtain ⟨p, rfl, hs⟩ := seq_ints S1.bh hdr
    have SF : Sd K B1 H1 σ δ1 F := S1.less fun a ha => .inl ha
    refine ⟨p, ns, rfl, hs, hl, fun r l hr hnd hmem => ?_⟩
    have hll := nodup_sub hnd fun k hk => (hmem k).mp hk
    refine ⟨r, _, l.length, rfl, upd_same, by omega, fun ns' r2 h1 h2 _ hr2 => ?_⟩
    have gr : Gr B1 H1 B1 (upd H1 r (SetO w r (fun j => decide (j ∈ ns)) l.length)) := Gr.own S1.bh hr
    have S2 := SF.grow gr
    refine kk (.ref r2) (fun a => a = r2) (.ow (RL K _)) B1 _ δ1 e1 (fun a ha => ?_) (sd_own S2 hr2) (rl_new (dpa_ints ns')) (fun a ha f => ?_) (q ns' h1 fun k => ?_)
    · rw [upd_ne (fun z => S2.fl a ha (by rw [z]; exact hr2)), ex_eq gr.h (SF.fl a ha), f1 a ha]
    · rw [ha] at f; exact S2.fl r2 f hr2
    · rw [h2 k, decide_eq_true_eq]
/-- what stands there is a pair: data, a list that is owned with it -/
def TwAt (K : PySem.W.Frag) (R : Res) (t : Addr) (x : PyData) (l : Addr) : Prop := ∀ v B H M, R.P v B H M → ∃ v0, v = .ref t ∧ H t = some (.tup [v0, .ref l]) ∧ Dp K B v0 x
theorem rh_tw {x : PyData} {t l : Addr} {cs : Cells} : TwAt K (RH K t ((t, .tup [.d x, .r l]) :: cs)) t x l := fun v B H M h => by
  obtain ⟨⟨vs, h1, h2⟩, _⟩ := RH.get h (a := t) (c := .tup [.d x, .r l]) (List.mem_cons_self ..)
  obtain rfl := h.1
  cases h2 with
  | @cons v0 _ _ _ hd0 r0 =>
    cases r0 with
    | cons hr1 r1 =>
      cases r1
      have hr1 : _ = V.ref l := hr1
      subst hr1
      exact ⟨_, rfl, h1, hd0⟩
theorem ev_isiTu {i : Nat} {R : Res} {t l : Addr} {x : PyData} (hi : δ[i]? = some (.ow R)) (ht : TwAt K R t x l) (h : Φ (.pu (.bool true)) δ) : EvS K (tCB (rIsi K) (tCons (tVar i) (tCons (tC (.ty "tuple")) tNil))) δ Φ := fun B H σ F Q S k => by
  obtain ⟨v, M, ev, hP, _⟩ := S.opn hi
  obtain ⟨v0, rfl, h1, _⟩ := ht _ _ _ _ hP
  refine ⟨_, ev, ?_⟩
  refine ⟨_, .ty "tuple", .type "tuple", .type "tuple", true, rfl, .ty "tuple", .base (.tup h1), kit_ty ?_, ?_⟩
  · have g := good_tuple (.tuple []) (fun _ e => nomatch e)
    rw [isi_tup (x := .tuple []) (fun _ e => nomatch e)] at g
    exact g
  · exact k _ (fun _ => False) (.pu (.bool true)) B H δ (Ex.refl _) (fun _ _ => rfl) (S.less fun c z => z.elim id False.elim) ⟨.bl _, fun _ z => z⟩ (fun _ z => z.elim) h
theorem ev_lenTu {i : Nat} {R : Res} {t l : Addr} {x : PyData} (hi : δ[i]? = some (.ow R)) (ht : TwAt K R t x l) (h : Φ (.pu (.int 2)) δ) : EvS K (tCB (fun xs H Q => ∃ p ys, xs = [V.ref p] ∧ (SqL K H p ys ∨ SqT K H p ys) ∧ Q (V.int ↑ys.length) H) (tCons (tVar i) tNil)) δ Φ := fun B H σ F Q S k => by
  obtain ⟨v, M, ev, hP, _⟩ := S.opn hi
  obtain ⟨v0, rfl, h1, _⟩ := ht _ _ _ _ hP
  refine ⟨_, ev, t, _, rfl, .inr (SqT.of h1), ?_⟩
  exact k _ (fun _ => False) (.pu (.int 2)) B H δ (Ex.refl _) (fun _ _ => rfl) (S.less fun c z => z.elim id False.elim) ⟨.int _, fun _ z => z⟩ (fun _ z => z.elim) h
theorem ev_ixTu {i : Nat} {R : Res} {t l : Addr} {x : PyData} (hi : δ[i]? = some (.ow R)) (ht : TwAt K R t x l) (h : Φ (.ow (RRef l)) δ) : EvS K (tOp (rIxT K) (tVar i) (tC (.int 1))) δ Φ := fun B H σ F Q S k => by
  obtain ⟨v, M, ev, hP, _⟩ := S.opn hi
  obtain ⟨v0, rfl, h1, _⟩ := ht _ _ _ _ hP
  exact ⟨_, ev, t, _, 1, .ref l, rfl, rfl, SqT.of h1, rfl, k (.ref l) (fun _ => False) (.ow (RRef l)) B H δ (Ex.refl _) (fun _ _ => rfl) (S.less fun c z => z.elim id False.elim) ⟨rfl, fun _ z => z⟩ (fun _ z => z.elim) h⟩
/-- a, b = t -/
theorem xs_unTu {i a b : Nat} {R : Res} {t l : Addr} {x : PyData} (hi : δ[i]? = some (.ow R)) (ht : TwAt K R t x l) (ha : a < δ.length) (hb : b < δ.length) (h : d.nx ((δ.set a (.pu x)).set b (.ow (RRef l)))) : ExS K (tAsg (tVar i) (gTup K 2 (gCons (gName a) (gCons (gName b) gNil)))) d δ := fun B H σ F D S L => by
  obtain ⟨v, M, ev, hP, _⟩ := S.opn hi
  obtain ⟨v0, rfl, h1, hd⟩ := ht _ _ _ _ hP
  refine ⟨_, ev, t, _, rfl, SqT.of h1, rfl, v0, _, rfl, .ref l, _, rfl, rfl, ?_⟩
  have S1 := S.put_pu (i := a) hd ha
  have S2 : Sd K B H ((σ.set a (some v0)).set b (some (.ref l))) ((δ.set a (.pu x)).set b (.ow (RRef l))) F := (S1.less fun c z => z).put (i := b) (x := some (.ref l)) (s := .ow (RRef l)) (M := fun _ => False) ⟨_, rfl, ⟨rfl, fun _ z => z⟩, fun _ z => z.elim⟩ (fun _ _ _ _ _ z => z.elim) (fun _ z => z.elim) (by rw [List.length_set]; exact hb)
  exact L.nx B H _ _ (Ex.refl _) (fun _ _ => rfl) S2 h
end
end Dl

set_option simprocs false

namespace Kr
open PySem PySem.Spec PyProof.Rows L2
def topS (i : Nat) : Stmt := PySem.Challenge.pw_keeprunning_k08_most_begins.main.body.getD i (.Pass ⟨0, 0, 0, 0⟩)
abbrev s__wall : Stmt := topS 0
theorem sc__wall : FnScope ["k"] ["k"] (defScope s__wall) := ⟨rfl, rfl, rfl, by decide +kernel, rfl, by decide +kernel, by decide +kernel⟩
abbrev s_is_between : Stmt := topS 11
theorem sc_is_between : FnScope ["part", "low", "high"] ["part", "low", "high"] (defScope s_is_between) := ⟨rfl, rfl, rfl, by decide +kernel, rfl, by decide +kernel, by decide +kernel⟩
abbrev s_is_service : Stmt := topS 12
theorem sc_is_service : FnScope ["service", "many", "number", "wants", "one", "k"] ["service", "many", "number"] (defScope s_is_service) := ⟨rfl, rfl, rfl, by decide +kernel, rfl, by decide +kernel, by decide +kernel⟩
abbrev s_ring_from : Stmt := topS 13
theorem sc_ring_from : FnScope ["plan", "begin", "level", "met", "further", "row", "one"] ["plan", "begin"] (defScope s_ring_from) := ⟨rfl, rfl, rfl, by decide +kernel, rfl, by decide +kernel, by decide +kernel⟩
abbrev s_first_ring : Stmt := topS 14
theorem sc_first_ring : FnScope ["plan", "best", "number", "row"] ["plan"] (defScope s_first_ring) := ⟨rfl, rfl, rfl, by decide +kernel, rfl, by decide +kernel, by decide +kernel⟩
abbrev s_need_services : Stmt := topS 15
theorem sc_need_services : FnScope ["plan", "number", "service"] ["plan"] (defScope s_need_services) := ⟨rfl, rfl, rfl, by decide +kernel, rfl, by decide +kernel, by decide +kernel⟩
abbrev s_need_plan : Stmt := topS 16
theorem sc_need_plan : FnScope ["plan", "ring"] ["plan"] (defScope s_need_plan) := ⟨rfl, rfl, rfl, by decide +kernel, rfl, by decide +kernel, by decide +kernel⟩
abbrev s_need_service : Stmt := topS 17
theorem sc_need_service : FnScope ["plan", "number"] ["plan", "number"] (defScope s_need_service) := ⟨rfl, rfl, rfl, by decide +kernel, rfl, by decide +kernel, by decide +kernel⟩
abbrev s_need_beats : Stmt := topS 18
theorem sc_need_beats : FnScope ["beats"] ["beats"] (defScope s_need_beats) := ⟨rfl, rfl, rfl, by decide +kernel, rfl, by decide +kernel, by decide +kernel⟩
abbrev s_wanted_by : Stmt := topS 19
theorem sc_wanted_by : FnScope ["plan", "number", "other"] ["plan", "number"] (defScope s_wanted_by) := ⟨rfl, rfl, rfl, by decide +kernel, rfl, by decide +kernel, by decide +kernel⟩
abbrev s_all_wants : Stmt := topS 20
theorem sc_all_wants : FnScope ["plan", "number", "found", "waiting", "one"] ["plan", "number"] (defScope s_all_wants) := ⟨rfl, rfl, rfl, by decide +kernel, rfl, by decide +kernel, by decide +kernel⟩
abbrev s_wait_of : Stmt := topS 30
theorem sc_wait_of : FnScope ["service", "falls", "wait", "turn"] ["service", "falls"] (defScope s_wait_of) := ⟨rfl, rfl, rfl, by decide +kernel, rfl, by decide +kernel, by decide +kernel⟩
abbrev s_most_of : Stmt := topS 34
theorem sc_most_of : FnScope ["service", "beats", "known", "beat", "falls", "many", "row"] ["service", "beats"] (defScope s_most_of) := ⟨rfl, rfl, rfl, by decide +kernel, rfl, by decide +kernel, by decide +kernel⟩
abbrev s_best_from : Stmt := topS 35
theorem sc_best_from : FnScope ["service", "beat", "falls", "known", "rested", "some", "when", "more", "later", "many", "row"] ["service", "beat", "falls", "known"] (defScope s_best_from) := ⟨rfl, rfl, rfl, by decide +kernel, rfl, by decide +kernel, by decide +kernel⟩
abbrev s_most_begins : Stmt := topS 36
theorem sc_most_begins : FnScope ["plan", "number", "beats"] ["plan", "number", "beats"] (defScope s_most_begins) := ⟨rfl, rfl, rfl, by decide +kernel, rfl, by decide +kernel, by decide +kernel⟩
abbrev s__law_dice : Stmt := topS 38
theorem sc__law_dice : FnScope ["_law_script", "_law_k", "_law_found", "_law_cell"] ["_law_script", "_law_k"] (defScope s__law_dice) := ⟨rfl, rfl, rfl, by decide +kernel, rfl, by decide +kernel, by decide +kernel⟩
abbrev s__law_off : Stmt := topS 39
theorem sc__law_off : FnScope ["_law_d", "_law_most", "_law_found"] ["_law_d", "_law_most"] (defScope s__law_off) := ⟨rfl, rfl, rfl, by decide +kernel, rfl, by decide +kernel, by decide +kernel⟩
abbrev s__law_alike : Stmt := topS 40
theorem sc__law_alike : FnScope ["_law_found", "_law_due", "_law_k"] ["_law_found", "_law_due"] (defScope s__law_alike) := ⟨rfl, rfl, rfl, by decide +kernel, rfl, by decide +kernel, by decide +kernel⟩
abbrev s__law_mixed : Stmt := topS 41
theorem sc__law_mixed : FnScope ["_law_d", "_law_row", "_law_left", "_law_found"] ["_law_d", "_law_row"] (defScope s__law_mixed) := ⟨rfl, rfl, rfl, by decide +kernel, rfl, by decide +kernel, by decide +kernel⟩
abbrev s__law_times : Stmt := topS 42
theorem sc__law_times : FnScope ["_law_d", "_law_few", "_law_tries", "_law_stays"] ["_law_d"] (defScope s__law_times) := ⟨rfl, rfl, rfl, by decide +kernel, rfl, by decide +kernel, by decide +kernel⟩
abbrev s__law_plan : Stmt := topS 43
theorem sc__law_plan : FnScope ["_law_d", "_law_limit", "_law_many", "_law_order_of", "_law_kind", "_law_often", "_law_wants", "_law_place", "_law_some", "_law_k", "_law_number"] ["_law_d", "_law_limit"] (defScope s__law_plan) := ⟨rfl, rfl, rfl, by decide +kernel, rfl, by decide +kernel, by decide +kernel⟩
abbrev s__law_wait : Stmt := topS 44
theorem sc__law_wait : FnScope ["_law_plan_here", "_law_number", "_law_falls", "_law_found", "_law_turn"] ["_law_plan_here", "_law_number", "_law_falls"] (defScope s__law_wait) := ⟨rfl, rfl, rfl, by decide +kernel, rfl, by decide +kernel, by decide +kernel⟩
abbrev s__law_table : Stmt := topS 45
theorem sc__law_table : FnScope ["_law_service", "_law_beats", "_law_plan_here", "_law_best", "_law_beat", "_law_falls", "_law_found", "_law_rested", "_law_when", "_law_row"] ["_law_service", "_law_beats"] (defScope s__law_table) := ⟨rfl, rfl, rfl, by decide +kernel, rfl, by decide +kernel, by decide +kernel⟩
abbrev s__law_begins : Stmt := topS 46
theorem sc__law_begins : FnScope ["_law_service", "_law_beats", "_law_falls", "_law_keeper", "_law_beat", "_law_row"] ["_law_service", "_law_beats", "_law_falls"] (defScope s__law_begins) := ⟨rfl, rfl, rfl, by decide +kernel, rfl, by decide +kernel, by decide +kernel⟩
abbrev s_law : Stmt := topS 47
theorem sc_law : FnScope ["_law_script", "_law_d", "_law_turn", "_law_plan_here", "_law_number", "_law_beats", "_law_again", "_law_found", "_law_many", "_law_falls", "_law_often", "_law_some", "_law_beat"] ["_law_script"] (defScope s_law) := ⟨rfl, rfl, rfl, by decide +kernel, rfl, by decide +kernel, by decide +kernel⟩
abbrev s_BadPlan___init__ : Stmt := inClass (topS 3) 0
theorem sc_BadPlan___init__ : FnScope ["self", "number"] ["self", "number"] (defScope s_BadPlan___init__) := ⟨rfl, rfl, rfl, by decide +kernel, rfl, by decide +kernel, by decide +kernel⟩
abbrev s_BadRing___init__ : Stmt := inClass (topS 4) 0
theorem sc_BadRing___init__ : FnScope ["self", "ring"] ["self", "ring"] (defScope s_BadRing___init__) := ⟨rfl, rfl, rfl, by decide +kernel, rfl, by decide +kernel, by decide +kernel⟩
abbrev s_Service___init__ : Stmt := inClass (topS 31) 0
theorem sc_Service___init__ : FnScope ["self", "plan"] ["self", "plan"] (defScope s_Service___init__) := ⟨rfl, rfl, rfl, by decide +kernel, rfl, by decide +kernel, by decide +kernel⟩
abbrev s_Service_put : Stmt := inClass (topS 31) 1
theorem sc_Service_put : FnScope ["self", "word", "left"] ["self", "word", "left"] (defScope s_Service_put) := ⟨rfl, rfl, rfl, by decide +kernel, rfl, by decide +kernel, by decide +kernel⟩
abbrev s_Service_count : Stmt := inClass (topS 31) 2
theorem sc_Service_count : FnScope ["self", "told"] ["self"] (defScope s_Service_count) := ⟨rfl, rfl, rfl, by decide +kernel, rfl, by decide +kernel, by decide +kernel⟩
abbrev s_Service_fall : Stmt := inClass (topS 31) 3
theorem sc_Service_fall : FnScope ["self"] ["self"] (defScope s_Service_fall) := ⟨rfl, rfl, rfl, by decide +kernel, rfl, by decide +kernel, by decide +kernel⟩
abbrev s_Keeper___init__ : Stmt := inClass (topS 32) 0
theorem sc_Keeper___init__ : FnScope ["self", "plan", "service"] ["self", "plan"] (defScope s_Keeper___init__) := ⟨rfl, rfl, rfl, by decide +kernel, rfl, by decide +kernel, by decide +kernel⟩
abbrev s_Keeper_tell : Stmt := inClass (topS 32) 1
theorem sc_Keeper_tell : FnScope ["self", "number", "word"] ["self", "number", "word"] (defScope s_Keeper_tell) := ⟨rfl, rfl, rfl, by decide +kernel, rfl, by decide +kernel, by decide +kernel⟩
abbrev s_Keeper_ask : Stmt := inClass (topS 32) 2
theorem sc_Keeper_ask : FnScope ["self", "number", "one"] ["self", "number"] (defScope s_Keeper_ask) := ⟨rfl, rfl, rfl, by decide +kernel, rfl, by decide +kernel, by decide +kernel⟩
abbrev s_Keeper_leave : Stmt := inClass (topS 32) 3
theorem sc_Keeper_leave : FnScope ["self", "number"] ["self", "number"] (defScope s_Keeper_leave) := ⟨rfl, rfl, rfl, by decide +kernel, rfl, by decide +kernel, by decide +kernel⟩
abbrev s_Keeper_due : Stmt := inClass (topS 32) 4
theorem sc_Keeper_due : FnScope ["self", "found", "number"] ["self"] (defScope s_Keeper_due) := ⟨rfl, rfl, rfl, by decide +kernel, rfl, by decide +kernel, by decide +kernel⟩
abbrev s_Keeper_fall : Stmt := inClass (topS 32) 5
theorem sc_Keeper_fall : FnScope ["self", "number"] ["self", "number"] (defScope s_Keeper_fall) := ⟨rfl, rfl, rfl, by decide +kernel, rfl, by decide +kernel, by decide +kernel⟩
abbrev s_Keeper_lacks : Stmt := inClass (topS 32) 6
theorem sc_Keeper_lacks : FnScope ["self", "number", "one"] ["self", "number"] (defScope s_Keeper_lacks) := ⟨rfl, rfl, rfl, by decide +kernel, rfl, by decide +kernel, by decide +kernel⟩
abbrev s_Keeper_is_free : Stmt := inClass (topS 32) 7
theorem sc_Keeper_is_free : FnScope ["self", "number", "one"] ["self", "number"] (defScope s_Keeper_is_free) := ⟨rfl, rfl, rfl, by decide +kernel, rfl, by decide +kernel, by decide +kernel⟩
abbrev s_Keeper_chosen : Stmt := inClass (topS 32) 8
theorem sc_Keeper_chosen : FnScope ["self", "due", "found", "number", "service"] ["self"] (defScope s_Keeper_chosen) := ⟨rfl, rfl, rfl, by decide +kernel, rfl, by decide +kernel, by decide +kernel⟩
abbrev s_Keeper_beat : Stmt := inClass (topS 32) 9
theorem sc_Keeper_beat : FnScope ["self", "ahead", "number", "service", "told", "word"] ["self"] (defScope s_Keeper_beat) := ⟨rfl, rfl, rfl, by decide +kernel, rfl, by decide +kernel, by decide +kernel⟩
abbrev s_Keeper_states : Stmt := inClass (topS 32) 10
theorem sc_Keeper_states : FnScope ["self"] ["self"] (defScope s_Keeper_states) := ⟨rfl, rfl, rfl, by decide +kernel, rfl, by decide +kernel, by decide +kernel⟩
abbrev s_Keeper_log : Stmt := inClass (topS 32) 11
theorem sc_Keeper_log : FnScope ["self"] ["self"] (defScope s_Keeper_log) := ⟨rfl, rfl, rfl, by decide +kernel, rfl, by decide +kernel, by decide +kernel⟩
end Kr

namespace Kr
open PySem Dl
/-! ### plans as data -/
structure Svc where
  wants : List Nat
  takes : Int
  ends : Int
  waits : Int
  stays : Int
  tries : Int
abbrev Pl := List Svc
def iz (ns : List Nat) : List Int := ns.map fun (n : Nat) => (n : Int)
def svcD (s : Svc) : PyData := .tuple [.tuple ((iz s.wants).map PyData.int), .int s.takes, .int s.ends, .int s.waits, .int s.stays, .int s.tries]
def planD (p : Pl) : PyData := .tuple (p.map svcD)
def wantsOf (p : Pl) (i : Nat) : List Nat := match p[i]? with
  | some s => s.wants
  | none => []
structure GoodS (m i : Nat) (s : Svc) : Prop where
  rise : s.wants.Pairwise (· < ·)
  below : ∀ x ∈ s.wants, x < m ∧ x ≠ i
  takes : 1 ≤ s.takes ∧ s.takes ≤ 20
  ends : 1 ≤ s.ends ∧ s.ends ≤ 20
  waits : 1 ≤ s.waits ∧ s.waits ≤ 20
  stays : 1 ≤ s.stays ∧ s.stays ≤ 50
  tries : 1 ≤ s.tries ∧ s.tries ≤ 9
/-- services that may be, no rings said of -/
structure Sound (p : Pl) : Prop where
  one : 1 ≤ p.length
  few : p.length ≤ 12
  svc : ∀ (i : Nat) (s : Svc), p[i]? = some s → GoodS p.length i s
/-- no rings: a rank that falls along wants -/
def NoRing (p : Pl) : Prop := ∃ rank : Nat → Nat, ∀ i x, x ∈ wantsOf p i → rank x < rank i
structure Good (p : Pl) : Prop where
  sound : Sound p
  free : NoRing p
theorem iz_mem {n : Nat} {ns : List Nat} : (n : Int) ∈ iz ns ↔ n ∈ ns := by
  unfold iz
  constructor
  · intro h
    obtain ⟨m, hm, e⟩ := List.mem_map.mp h
    have : m = n := by omega
    exact this ▸ hm
  · intro h
    exact List.mem_map.mpr ⟨n, h, rfl⟩
theorem iz_app (a b : List Nat) : iz (a ++ b) = iz a ++ iz b := List.map_append
theorem iz_ex {a : Int} {ns : List Nat} (h : a ∈ iz ns) : ∃ x : Nat, a = (x : Int) ∧ x ∈ ns := by
  obtain ⟨x, hx, e⟩ := List.mem_map.mp h
  exact ⟨x, e.symm, hx⟩
theorem iz_rise {ns : List Nat} (h : ns.Pairwise (· < ·)) : (iz ns).Pairwise (· < ·) := by
  unfold iz
  rw [List.pairwise_map]
  exact h.imp fun z => by omega
theorem iz_len (ns : List Nat) : (iz ns).length = ns.length := List.length_map _
theorem wantsOf_some {p : Pl} {i : Nat} {s : Svc} (h : p[i]? = some s) : wantsOf p i = s.wants := by unfold wantsOf; rw [h]
theorem Sound.wants_lt {p : Pl} (h : Sound p) {i x : Nat} (hx : x ∈ wantsOf p i) : x < p.length := by
  unfold wantsOf at hx
  cases e : p[i]? with
  | none => rw [e] at hx; cases hx
  | some s => rw [e] at hx; exact ((h.svc i s e).below x hx).1
theorem rise_len : ∀ {ns : List Nat} {m lo : Nat}, ns.Pairwise (· < ·) → (∀ x ∈ ns, lo ≤ x ∧ x < m) → ns.length ≤ m - lo
  | [], _, _, _, _ => Nat.zero_le _
  | a :: r, m, lo, h, hb => by
    obtain ⟨h1, h2⟩ := List.pairwise_cons.mp h
    have ha := hb a (List.mem_cons_self ..)
    have := rise_len (ns := r) (m := m) (lo := a + 1) h2 fun x hx => ⟨h1 x hx, (hb x (List.mem_cons_of_mem _ hx)).2⟩
    rw [List.length_cons]
    omega
theorem GoodS.few {m i : Nat} {s : Svc} (h : GoodS m i s) : s.wants.length ≤ m := by
  have := rise_len (m := m) (lo := 0) h.rise fun x hx => ⟨Nat.zero_le _, (h.below x hx).1⟩
  omega
def listD (l : List Nat) : List PyData := (iz l).map PyData.int
theorem listD_len (l : List Nat) : (listD l).length = l.length := by simp [listD, iz]
theorem listD_app (l m : List Nat) : listD (l ++ m) = listD l ++ listD m := by simp [listD, iz]
theorem planD_inj {p q : Pl} (h : planD p = planD q) : p = q := by
  unfold planD at h
  injection h with h
  have hj : ∀ (a b : Svc), svcD a = svcD b → a = b := by
    rintro ⟨a1, a2, a3, a4, a5, a6⟩ ⟨b1, b2, b3, b4, b5, b6⟩ h
    simp only [svcD, PyData.tuple.injEq, List.cons.injEq, PyData.int.injEq, and_true] at h
    obtain ⟨h1, rfl, rfl, rfl, rfl, rfl⟩ := h
    have e : iz a1 = iz b1 := List.map_inj_right (fun x y h => PyData.int.inj h) |>.mp h1
    have e2 : a1 = b1 := List.map_inj_right (fun (x y : Nat) (h : (x : Int) = (y : Int)) => by omega) |>.mp e
    rw [e2]
  exact List.map_inj_right hj |>.mp h
end Kr

namespace Kr
open PySem Dl
/-! ### orders -/
def rdy (p : Pl) (l : List Nat) (i : Nat) : Bool := decide (i ∉ l) && (wantsOf p i).all fun x => decide (x ∈ l)
def IsStep (p : Pl) (l : List Nat) (m : Nat) : Prop := m < p.length ∧ rdy p l m = true ∧ ∀ j, j < m → rdy p l j = false
theorem IsStep.one {p : Pl} {l : List Nat} {m m' : Nat} (h : IsStep p l m) (h' : IsStep p l m') : m = m' := by
  rcases Nat.lt_trichotomy m m' with e | e | e
  · have := h'.2.2 m e
    rw [h.2.1] at this
    cases this
  · exact e
  · have := h.2.2 m' e
    rw [h'.2.1] at this
    cases this
inductive Ord (p : Pl) : List Nat → Prop
  | nil : Ord p []
  | snoc {l : List Nat} {m : Nat} : Ord p l → IsStep p l m → Ord p (l ++ [m])
theorem Ord.one {p : Pl} {l : List Nat} (h : Ord p l) : ∀ {l' : List Nat}, Ord p l' → l.length = l'.length → l = l' := by
  induction h with
  | nil =>
    intro l' h' e
    exact (List.length_eq_zero_iff.mp e.symm).symm
  | @snoc l m h1 h2 ih =>
    intro l' h' e
    cases h' with
    | nil => simp at e
    | @snoc l2 m2 h3 h4 =>
      have e2 : l = l2 := ih h3 (by simpa using e)
      subst e2
      rw [h2.one h4]
theorem Ord.mem {p : Pl} {l : List Nat} (h : Ord p l) : (∀ x ∈ l, x < p.length) ∧ l.Nodup := by
  induction h with
  | nil => exact ⟨by simp, List.nodup_nil⟩
  | @snoc l m h1 h2 ih =>
    refine ⟨fun x hx => ?_, ?_⟩
    · rcases List.mem_append.mp hx with hx | hx
      · exact ih.1 x hx
      · rw [List.mem_singleton.mp hx]
        exact h2.1
    · rw [List.nodup_append]
      refine ⟨ih.2, List.nodup_cons.mpr ⟨by simp, List.nodup_nil⟩, fun a ha b hb e => ?_⟩
      rw [List.mem_singleton.mp hb] at e
      have := h2.2.1
      unfold rdy at this
      rw [Bool.and_eq_true] at this
      exact (of_decide_eq_true this.1) (e ▸ ha)
theorem cover : ∀ (n : Nat) (l : List Nat), (∀ i, i < n → i ∈ l) → n ≤ l.length
  | 0, _, _ => Nat.zero_le _
  | n + 1, l, h => by
    have h1 : n ∈ l := h n (Nat.lt_succ_self n)
    have := cover n (l.erase n) fun i hi => (List.mem_erase_of_ne (by omega)).mpr (h i (by omega))
    rw [List.length_erase_of_mem h1] at this
    have := List.length_pos_of_mem h1
    omega
theorem nodup_len : ∀ (n : Nat) (l : List Nat), l.Nodup → (∀ x ∈ l, x < n) → l.length ≤ n
  | 0, [], _, _ => Nat.le_refl _
  | 0, k :: _, _, h => absurd (h k (List.mem_cons_self ..)) (by omega)
  | n + 1, ks, hd, h => by
    have := nodup_len n (ks.erase n) (hd.erase _) fun k hk => by
      obtain ⟨a, b⟩ := (hd.mem_erase_iff).mp hk
      have := h k b
      omega
    have := List.length_erase (a := n) (l := ks)
    split at this <;> omega
theorem Ord.len {p : Pl} {l : List Nat} (h : Ord p l) : l.length ≤ p.length := nodup_len _ _ h.mem.2 h.mem.1
theorem missing {n : Nat} {l : List Nat} (h : l.length < n) : ∃ i, i < n ∧ i ∉ l := Classical.byContradiction fun hn => by
  have := cover n l fun i hi => Classical.byContradiction fun hi2 => hn ⟨i, hi, hi2⟩
  omega
theorem ready_ex {p : Pl} (hg : Good p) {l : List Nat} (h : l.length < p.length) : ∃ i, i < p.length ∧ rdy p l i = true := by
  obtain ⟨rank, hr⟩ := hg.free
  have key : ∀ (n i : Nat), rank i ≤ n → i < p.length → i ∉ l → ∃ i, i < p.length ∧ rdy p l i = true := by
    intro n
    induction n with
    | zero =>
      intro i hi hl hn
      refine ⟨i, hl, ?_⟩
      unfold rdy
      rw [Bool.and_eq_true, List.all_eq_true]
      exact ⟨decide_eq_true hn, fun x hx => absurd (hr i x hx) (by omega)⟩
    | succ n ih =>
      intro i hi hl hn
      by_cases ha : (wantsOf p i).all (fun x => decide (x ∈ l)) = true
      · exact ⟨i, hl, by unfold rdy; rw [Bool.and_eq_true]; exact ⟨decide_eq_true hn, ha⟩⟩
      · rw [List.all_eq_true] at ha
        obtain ⟨x, hx, hx2⟩ : ∃ x, x ∈ wantsOf p i ∧ x ∉ l := Classical.byContradiction fun hc => ha fun x hx => decide_eq_true (Classical.byContradiction fun h2 => hc ⟨x, hx, h2⟩)
        exact ih x (by have := hr i x hx; omega) (hg.sound.wants_lt hx) hx2
  obtain ⟨i, h1, h2⟩ := missing h
  exact key (rank i) i (Nat.le_refl _) h1 h2
/-- the least that is ready -/
theorem step_ex {p : Pl} (hg : Good p) {l : List Nat} (h : l.length < p.length) : ∃ m, IsStep p l m := by
  obtain ⟨i, h1, h2⟩ := ready_ex hg h
  have key : ∀ (n i : Nat), i ≤ n → i < p.length → rdy p l i = true → ∃ m, IsStep p l m := by
    intro n
    induction n with
    | zero => exact fun i hi hl hr => ⟨i, hl, hr, fun j hj => by omega⟩
    | succ n ih =>
      intro i hi hl hr
      by_cases hc : ∃ j, j < i ∧ rdy p l j = true
      · obtain ⟨j, hj, hj2⟩ := hc
        exact ih j (by omega) (by omega) hj2
      · exact ⟨i, hl, hr, fun j hj => by
          cases e : rdy p l j with
          | false => rfl
          | true => exact absurd ⟨j, hj, e⟩ hc⟩
  exact key i i (Nat.le_refl _) h1 h2
/-- what the code reads: no want is outside -/
theorem outs_nil {l ws : List Nat} : (((iz ws).filter fun a => !decide (a ∈ iz l)).map PyData.int).isEmpty = ws.all fun x => decide (x ∈ l) := by
  induction ws with
  | nil => rfl
  | cons x r ih =>
    rw [List.all_cons, ← ih]
    show ((((x : Int) :: iz r).filter _).map PyData.int).isEmpty = _
    rw [List.filter_cons]
    by_cases h : x ∈ l
    · rw [decide_eq_true (iz_mem.mpr h), decide_eq_true h]
      rfl
    · rw [decide_eq_false (fun z => h (iz_mem.mp z)), decide_eq_false h]
      rfl
end Kr

namespace Kr
open PySem Dl
/-! ### what is left -/
def rest (n : Nat) (due : List Nat) : List Nat := (List.range n).filter fun i => decide (i ∉ due)
theorem rest_mem {n : Nat} {due : List Nat} {i : Nat} : i ∈ rest n due ↔ i < n ∧ i ∉ due := by
  unfold rest
  rw [List.mem_filter, List.mem_range]
  exact ⟨fun ⟨a, b⟩ => ⟨a, of_decide_eq_true b⟩, fun ⟨a, b⟩ => ⟨a, decide_eq_true b⟩⟩
theorem rest_nd {n : Nat} {due : List Nat} : (rest n due).Nodup := List.nodup_range.sublist List.filter_sublist
theorem rest_nil {n : Nat} : rest n [] = List.range n := by
  unfold rest
  rw [List.filter_eq_self]
  intro a _
  exact decide_eq_true (by simp)
theorem rest_snoc {n i : Nat} {due : List Nat} : rest n (due ++ [i]) = (rest n due).erase i := by
  rw [rest_nd.erase_eq_filter]
  unfold rest
  rw [List.filter_filter]
  refine List.filter_congr fun x _ => ?_
  by_cases h1 : x ∈ due
  · simp [h1]
  · by_cases h2 : x = i
    · simp [h1, h2]
    · simp [h1, h2]
theorem rest_len {n : Nat} {due : List Nat} : (rest n due).length ≤ n := by
  have := List.length_filter_le (fun i => decide (i ∉ due)) (List.range n)
  rwa [List.length_range] at this
/-- the law's own test: no want is left -/
def noWant (p : Pl) (left : List Nat) (a : Int) : Bool := (((iz (wantsOf p a.toNat)).filter fun x => decide (x ∈ iz left)).map PyData.int).isEmpty
theorem noWant_iff {p : Pl} {left : List Nat} {i : Nat} : noWant p left (i : Int) = true ↔ ∀ x ∈ wantsOf p i, x ∉ left := by
  unfold noWant
  rw [Int.toNat_natCast, List.isEmpty_map, List.isEmpty_iff, List.filter_eq_nil_iff]
  constructor
  · intro h x hx hl
    exact h (x : Int) (iz_mem.mpr hx) (decide_eq_true (iz_mem.mpr hl))
  · intro h a ha hb
    obtain ⟨x, rfl, hx⟩ := iz_ex ha
    exact h x hx (iz_mem.mp (of_decide_eq_true hb))
theorem isStep_of {p : Pl} (hg : Good p) {due : List Nat} {m : Int} (h1 : m ∈ (iz (rest p.length due)).filter (noWant p (rest p.length due))) (h2 : ∀ y, y ∈ (iz (rest p.length due)).filter (noWant p (rest p.length due)) → m ≤ y) : ∃ i : Nat, m = (i : Int) ∧ IsStep p due i ∧ i ∈ rest p.length due := by
  obtain ⟨ha, hb⟩ := List.mem_filter.mp h1
  obtain ⟨i, rfl, hi⟩ := iz_ex ha
  have key : ∀ j : Nat, j < p.length → (rdy p due j = true ↔ (j ∈ rest p.length due ∧ noWant p (rest p.length due) (j : Int) = true)) := fun j hj => by
    unfold rdy
    rw [Bool.and_eq_true, List.all_eq_true, noWant_iff, rest_mem]
    constructor
    · rintro ⟨a, b⟩
      exact ⟨⟨hj, of_decide_eq_true a⟩, fun x hx hl => (rest_mem.mp hl).2 (of_decide_eq_true (b x hx))⟩
    · rintro ⟨⟨_, a⟩, b⟩
      refine ⟨decide_eq_true a, fun x hx => decide_eq_true (Classical.byContradiction fun hn => b x hx (rest_mem.mpr ⟨hg.sound.wants_lt hx, hn⟩))⟩
  have hil := (rest_mem.mp hi).1
  refine ⟨i, rfl, ⟨hil, (key i hil).mpr ⟨hi, hb⟩, fun j hj => ?_⟩, hi⟩
  cases e : rdy p due j with
  | false => rfl
  | true =>
    obtain ⟨a, b⟩ := (key j (by omega)).mp e
    have := h2 (j : Int) (List.mem_filter.mpr ⟨iz_mem.mpr a, b⟩)
    omega
theorem ready_pos {p : Pl} (hg : Good p) {due : List Nat} (h : due.length < p.length) : 0 < ((iz (rest p.length due)).filter (noWant p (rest p.length due))).length := by
  obtain ⟨i, hi, hr⟩ := ready_ex hg h
  unfold rdy at hr
  rw [Bool.and_eq_true, List.all_eq_true] at hr
  refine List.length_pos_of_mem (a := (i : Int)) (List.mem_filter.mpr ⟨iz_mem.mpr (rest_mem.mpr ⟨hi, of_decide_eq_true hr.1⟩), noWant_iff.mpr fun x hx hl => (rest_mem.mp hl).2 (of_decide_eq_true (hr.2 x hx))⟩)
theorem rest_empty {p : Pl} {due : List Nat} (ho : Ord p due) (h : rest p.length due = []) : due.length = p.length := by
  have h1 := ho.len
  have h2 := cover p.length due fun i hi => Classical.byContradiction fun hn => by
    have := rest_mem.mpr ⟨hi, hn⟩
    rw [h] at this
    cases this
  omega
theorem rest_some {p : Pl} {due : List Nat} {i : Nat} (ho : Ord p due) (h : i ∈ rest p.length due) : due.length < p.length := by
  rcases Nat.lt_or_ge due.length p.length with h1 | h1
  · exact h1
  · obtain ⟨a, b⟩ := rest_mem.mp h
    have : (due ++ [i]).length ≤ p.length := nodup_len _ _ (by
      rw [List.nodup_append]
      refine ⟨ho.mem.2, List.nodup_cons.mpr ⟨by simp, List.nodup_nil⟩, fun x hx y hy e => ?_⟩
      rw [List.mem_singleton.mp hy] at e
      exact b (e ▸ hx)) fun x hx => by
      rcases List.mem_append.mp hx with hx | hx
      · exact ho.mem.1 x hx
      · rw [List.mem_singleton.mp hx]
        exact a
    rw [List.length_append] at this
    simp at this
    omega
/-- the first place of a number -/
theorem first_at : ∀ {l : List Nat} {x : Nat}, x ∈ l → ∃ i, (iz l)[i]? = some (x : Int) ∧ (∀ m : Nat, m < i → (iz l)[m]? ≠ some (x : Int)) ∧ (iz l).eraseIdx i = iz (l.erase x)
  | a :: r, x, h => by
    by_cases e : a = x
    · subst e
      refine ⟨0, rfl, fun m hm => absurd hm (Nat.not_lt_zero m), ?_⟩
      rw [List.erase_cons_head]
      rfl
    · obtain ⟨i, h1, h2, h3⟩ := first_at (l := r) (x := x) (by
        rcases List.mem_cons.mp h with h | h
        · exact absurd h.symm e
        · exact h)
      refine ⟨i + 1, h1, fun m hm => ?_, ?_⟩
      · cases m with
        | zero =>
          intro hz
          have : (a : Int) = (x : Int) := Option.some.inj hz
          exact e (by omega)
        | succ m => exact h2 m (by omega)
      · rw [List.erase_cons_tail (by simpa using e)]
        show (a : Int) :: (iz r).eraseIdx i = _
        rw [h3]
        rfl
end Kr

namespace Kr
open PySem Dl
/-! ### all that a service wants, over others -/
inductive Reach (p : Pl) : Nat → Nat → Prop
  | one {i x : Nat} : x ∈ wantsOf p i → Reach p i x
  | step {i x y : Nat} : Reach p i x → y ∈ wantsOf p x → Reach p i y
open Classical in
noncomputable def allW (p : Pl) (i : Nat) : List Nat := (List.range p.length).filter fun x => decide (Reach p i x)
theorem Reach.lt {p : Pl} (h : Sound p) {i x : Nat} (r : Reach p i x) : x < p.length := by
  cases r with
  | one hx => exact h.wants_lt hx
  | step _ hx => exact h.wants_lt hx
open Classical in
theorem allW_mem {p : Pl} (h : Sound p) {i x : Nat} : x ∈ allW p i ↔ Reach p i x := by
  unfold allW
  rw [List.mem_filter, List.mem_range]
  exact ⟨fun ⟨_, b⟩ => of_decide_eq_true b, fun r => ⟨r.lt h, decide_eq_true r⟩⟩
theorem allW_rise {p : Pl} {i : Nat} : (allW p i).Pairwise (· < ·) := List.pairwise_lt_range.filter _
/-- weights of what isn't found yet -/
def wsum (p : Pl) (found : List Nat) : Nat := ((rest p.length found).map fun x => (wantsOf p x).length).sum
theorem sum_erase {f : Nat → Nat} : ∀ {l : List Nat} {x : Nat}, x ∈ l → ((l.erase x).map f).sum + f x = (l.map f).sum
  | a :: r, x, h => by
    by_cases e : a = x
    · subst e
      rw [List.erase_cons_head, List.map_cons, List.sum_cons]
      omega
    · rw [List.erase_cons_tail (by simpa using e), List.map_cons, List.sum_cons, List.map_cons, List.sum_cons]
      have := sum_erase (f := f) (l := r) (x := x) (by
        rcases List.mem_cons.mp h with h | h
        · exact absurd h.symm e
        · exact h)
      omega
theorem wsum_snoc {p : Pl} {found : List Nat} {x : Nat} (hx : x < p.length) (h : x ∉ found) : wsum p (found ++ [x]) + (wantsOf p x).length = wsum p found := by
  unfold wsum
  rw [rest_snoc]
  exact sum_erase (rest_mem.mpr ⟨hx, h⟩)
theorem wantsOf_len {p : Pl} (h : Sound p) (i : Nat) : (wantsOf p i).length ≤ 12 := by
  unfold wantsOf
  cases e : p[i]? with
  | none => exact Nat.zero_le _
  | some s =>
    have := (h.svc i s e).few
    have := h.few
    show s.wants.length ≤ 12
    omega
theorem sum_le {f : Nat → Nat} {b : Nat} : ∀ {l : List Nat}, (∀ x ∈ l, f x ≤ b) → (l.map f).sum ≤ l.length * b
  | [], _ => Nat.zero_le _
  | a :: r, h => by
    have h1 := h a (List.mem_cons_self ..)
    have h2 := sum_le (f := f) (b := b) (l := r) fun x hx => h x (List.mem_cons_of_mem _ hx)
    rw [List.map_cons, List.sum_cons, List.length_cons, Nat.add_mul]
    omega
theorem wsum_le {p : Pl} (h : Sound p) (found : List Nat) : wsum p found ≤ 144 := by
  have h1 := sum_le (f := fun x => (wantsOf p x).length) (b := 12) (l := rest p.length found) fun x _ => wantsOf_len h x
  have h2 := rest_len (n := p.length) (due := found)
  have h3 := h.few
  unfold wsum
  have : (rest p.length found).length * 12 ≤ 12 * 12 := Nat.mul_le_mul_right _ (by omega)
  omega
/-- found and waiting while the wants are walked -/
structure Walked (p : Pl) (i : Nat) (wait found : List Nat) : Prop where
  nd : found.Nodup
  fr : ∀ x ∈ found, Reach p i x
  wr : ∀ x ∈ wait, Reach p i x
  cl : ∀ x ∈ found, ∀ y ∈ wantsOf p x, y ∈ found ∨ y ∈ wait
  st : ∀ y ∈ wantsOf p i, y ∈ found ∨ y ∈ wait
theorem Walked.begin {p : Pl} {i : Nat} : Walked p i (wantsOf p i) [] := ⟨List.nodup_nil, by simp, fun x hx => .one hx, by simp, fun y hy => .inr hy⟩
theorem Walked.old {p : Pl} {i x : Nat} {wait found : List Nat} (h : Walked p i (wait ++ [x]) found) (hx : x ∈ found) : Walked p i wait found := by
  refine ⟨h.nd, h.fr, fun y hy => h.wr y (List.mem_append_left _ hy), fun z hz y hy => ?_, fun y hy => ?_⟩
  · rcases h.cl z hz y hy with h1 | h1
    · exact .inl h1
    · rcases List.mem_append.mp h1 with h1 | h1
      · exact .inr h1
      · rw [List.mem_singleton.mp h1]; exact .inl hx
  · rcases h.st y hy with h1 | h1
    · exact .inl h1
    · rcases List.mem_append.mp h1 with h1 | h1
      · exact .inr h1
      · rw [List.mem_singleton.mp h1]; exact .inl hx
theorem Walked.new {p : Pl} {i x : Nat} {wait found : List Nat} (h : Walked p i (wait ++ [x]) found) (hx : x ∉ found) : Walked p i (wait ++ wantsOf p x) (found ++ [x]) := by
  have hxr : Reach p i x := h.wr x (List.mem_append_right _ (List.mem_singleton.mpr rfl))
  have mv : ∀ y, y ∈ found ∨ y ∈ wait ++ [x] → y ∈ found ++ [x] ∨ y ∈ wait ++ wantsOf p x := fun y hy => by
    rcases hy with h1 | h1
    · exact .inl (List.mem_append_left _ h1)
    · rcases List.mem_append.mp h1 with h1 | h1
      · exact .inr (List.mem_append_left _ h1)
      · exact .inl (List.mem_append_right _ h1)
  refine ⟨?_, fun y hy => ?_, fun y hy => ?_, fun z hz y hy => ?_, fun y hy => mv y (h.st y hy)⟩
  · rw [List.nodup_append]
    refine ⟨h.nd, List.nodup_cons.mpr ⟨by simp, List.nodup_nil⟩, fun a ha b hb e => ?_⟩
    rw [List.mem_singleton.mp hb] at e
    exact hx (e ▸ ha)
  · rcases List.mem_append.mp hy with hy | hy
    · exact h.fr y hy
    · rw [List.mem_singleton.mp hy]; exact hxr
  · rcases List.mem_append.mp hy with hy | hy
    · exact h.wr y (List.mem_append_left _ hy)
    · exact .step hxr hy
  · rcases List.mem_append.mp hz with hz | hz
    · exact mv y (h.cl z hz y hy)
    · rw [List.mem_singleton.mp hz] at hy
      exact .inr (List.mem_append_right _ hy)
theorem Walked.done {p : Pl} {i : Nat} {found : List Nat} (h : Walked p i [] found) {x : Nat} : x ∈ found ↔ Reach p i x := by
  refine ⟨h.fr x, fun r => ?_⟩
  induction r with
  | one hx => exact (h.st _ hx).elim id fun z => nomatch z
  | step _ hy ih => exact (h.cl _ ih _ hy).elim id fun z => nomatch z
end Kr

namespace Kr
open PySem Dl
/-! ### a keeper, as plain data -/
inductive Wd where
  | off | begins | up | ends | again | given
deriving DecidableEq
def Wd.s : Wd → Str
  | .off => "off" | .begins => "begins" | .up => "up" | .ends => "ends" | .again => "again" | .given => "given"
def Wd.runs : Wd → Bool
  | .begins => true | .up => true | .ends => true | _ => false
/-- words of a log -/
inductive Lw where
  | off | begins | up | ends | given | falls
deriving DecidableEq
def Lw.s : Lw → Str
  | .off => "off" | .begins => "begins" | .up => "up" | .ends => "ends" | .given => "given" | .falls => "falls"
theorem Wd.s_ne {a b : Wd} (h : a ≠ b) : a.s ≠ b.s := by
  cases a <;> cases b <;> first | exact absurd rfl h | (unfold Wd.s; decide +kernel)
theorem Wd.s_inj {a b : Wd} : a.s = b.s ↔ a = b := ⟨fun h => Classical.byContradiction fun n => Wd.s_ne n h, fun h => by rw [h]⟩
theorem Lw.s_ne {a b : Lw} (h : a ≠ b) : a.s ≠ b.s := by
  cases a <;> cases b <;> first | exact absurd rfl h | (unfold Lw.s; decide +kernel)
theorem Lw.s_inj {a b : Lw} : a.s = b.s ↔ a = b := ⟨fun h => Classical.byContradiction fun n => Lw.s_ne n h, fun h => by rw [h]⟩
theorem Wd.dec (a b : Wd) : decide (a.s = b.s) = decide (a = b) := by
  by_cases h : a = b
  · rw [h]; simp
  · rw [decide_eq_false h, decide_eq_false (Wd.s_ne h)]
structure Srv where
  word : Wd
  left : Int
  falls : Int
structure LRow where
  beat : Int
  num : Nat
  word : Lw
def logD (r : LRow) : PyData := .tuple [.int r.beat, .int (r.num : Int), .str r.word.s]
structure Kst where
  srvs : List Srv
  goals : List Nat
  rows : List LRow
  beats : Int
def srv0 : Srv := ⟨.off, 0, 0⟩
def st0 (p : Pl) : Kst := ⟨List.replicate p.length srv0, [], [], 0⟩
def svc0 : Svc := ⟨[], 1, 1, 1, 1, 1⟩
def svcAt (p : Pl) (i : Nat) : Svc := p.getD i svc0
def srvAt (st : Kst) (i : Nat) : Srv := st.srvs.getD i srv0
def wordAt (st : Kst) (i : Nat) : Wd := (srvAt st i).word
theorem srvAt_some {st : Kst} {i : Nat} {r : Srv} (h : st.srvs[i]? = some r) : srvAt st i = r := by unfold srvAt; rw [List.getD_eq_getElem?_getD, h]; rfl
theorem svcAt_some {p : Pl} {i : Nat} {s : Svc} (h : p[i]? = some s) : svcAt p i = s := by unfold svcAt; rw [List.getD_eq_getElem?_getD, h]; rfl
theorem wordAt_some {st : Kst} {i : Nat} {r : Srv} (h : st.srvs[i]? = some r) : wordAt st i = r.word := by unfold wordAt; rw [srvAt_some h]
/-- wait of a service behind so many falls in a row -/
def waitF (w : Int) : Nat → Int
  | 0 => w
  | n + 1 => min 600 (2 * waitF w n)
def wantedBy (p : Pl) (i : Nat) : List Nat := (List.range p.length).filter fun j => decide (i ∈ wantsOf p j)
def countS (s : Svc) (r : Srv) : Srv × Option Lw := match r.word with
  | .up => (⟨.up, r.left + 1, if r.left + 1 = s.stays then 0 else r.falls⟩, none)
  | .off => (r, none)
  | .given => (r, none)
  | .begins => if 0 < r.left - 1 then (⟨.begins, r.left - 1, r.falls⟩, none) else (⟨.up, 0, r.falls⟩, some .up)
  | .ends => if 0 < r.left - 1 then (⟨.ends, r.left - 1, r.falls⟩, none) else (⟨.off, 0, r.falls⟩, some .off)
  | .again => if 0 < r.left - 1 then (⟨.again, r.left - 1, r.falls⟩, none) else (⟨.off, 0, r.falls⟩, none)
def fallS (s : Svc) (r : Srv) : Srv :=
  if r.word = .ends then ⟨.off, 0, r.falls⟩ else if s.tries ≤ r.falls + 1 then ⟨.given, 0, r.falls + 1⟩ else ⟨.again, waitF s.waits r.falls.toNat, r.falls + 1⟩
def putS (s : Svc) (w : Wd) (r : Srv) : Srv := match w with
  | .begins => ⟨.begins, s.takes, r.falls⟩
  | .ends => ⟨.ends, s.ends, r.falls⟩
  | _ => ⟨.off, 0, r.falls⟩
def setSrv (st : Kst) (i : Nat) (r : Srv) : Kst := { st with srvs := st.srvs.set i r }
def tellK (st : Kst) (i : Nat) (w : Lw) : Kst := { st with rows := st.rows ++ [⟨st.beats, i, w⟩] }
/-- those given up among l are off again -/
def revive (l : List Nat) (rs : List Srv) : List Srv := rs.mapIdx fun j r => if j ∈ l ∧ r.word = .given then srv0 else r
noncomputable def askK (p : Pl) (st : Kst) (i : Nat) : Kst := { st with goals := if i ∈ st.goals then st.goals else st.goals ++ [i], srvs := revive (i :: allW p i) st.srvs }
def leaveK (st : Kst) (i : Nat) : Kst := { st with goals := st.goals.filter fun j => !decide (j = i) }
def Due (p : Pl) (st : Kst) (k : Nat) : Prop := k ∈ st.goals ∨ ∃ g ∈ st.goals, Reach p g k
open Classical in
noncomputable def dueK (p : Pl) (st : Kst) : List Nat := (List.range p.length).filter fun k => decide (Due p st k)
noncomputable def lacksK (p : Pl) (st : Kst) (i : Nat) : Bool := (allW p i).any fun j => !decide (wordAt st j = .up)
def freeK (p : Pl) (st : Kst) (i : Nat) : Bool := (wantedBy p i).all fun j => !(wordAt st j).runs
noncomputable def pickK (p : Pl) (st : Kst) (i : Nat) : Option Wd :=
  if (wordAt st i = .begins ∨ wordAt st i = .up) ∧ (i ∉ dueK p st ∨ lacksK p st i = true) ∧ freeK p st i = true then some .ends
  else if wordAt st i = .off ∧ i ∈ dueK p st ∧ lacksK p st i = false then some .begins
  else if wordAt st i = .again ∧ i ∉ dueK p st then some .off else none
noncomputable def chosenK (p : Pl) (st : Kst) : List (Nat × Wd) := (List.range p.length).filterMap fun i => (pickK p st i).map fun w => (i, w)
def fallK (p : Pl) (st : Kst) (i : Nat) : Kst :=
  if (wordAt st i).runs = true then
    if (fallS (svcAt p i) (srvAt st i)).word = .given then tellK (setSrv (tellK st i .falls) i (fallS (svcAt p i) (srvAt st i))) i .given
    else setSrv (tellK st i .falls) i (fallS (svcAt p i) (srvAt st i))
  else st
/-- what the counting of a beat tells -/
def toldS (p : Pl) (st : Kst) (i : Nat) : Option LRow := ((countS (svcAt p i) (srvAt st i)).2).map fun w => ⟨st.beats + 1, i, w⟩
def countN (p : Pl) (st : Kst) (n : Nat) : Kst := { st with beats := st.beats + 1, srvs := st.srvs.mapIdx fun i r => if i < n then (countS (svcAt p i) r).1 else r, rows := st.rows ++ (List.range n).filterMap (toldS p st) }
def countK (p : Pl) (st : Kst) : Kst := countN p st p.length
def rowOf (b : Int) (x : Nat × Wd) : Option LRow := match x.2 with
  | .begins => some ⟨b, x.1, .begins⟩
  | .ends => some ⟨b, x.1, .ends⟩
  | _ => none
def doneS (p : Pl) (ch : List (Nat × Wd)) (i : Nat) (r : Srv) : Srv := match ch.find? (fun x => decide (x.1 = i)) with
  | some x => putS (svcAt p i) x.2 r
  | none => r
/-- what was chosen is done -/
def doneN (p : Pl) (ch : List (Nat × Wd)) (st : Kst) : Kst := { st with srvs := st.srvs.mapIdx (doneS p ch), rows := st.rows ++ ch.filterMap (rowOf st.beats) }
noncomputable def beatK (p : Pl) (st : Kst) : Kst := doneN p (chosenK p (countK p st)) (countK p st)
def leftS (r : Srv) : Int := match r.word with
  | .begins => r.left
  | .ends => r.left
  | .again => r.left
  | _ => 0
def stateD (r : Srv) : PyData := .tuple [.str r.word.s, .int (leftS r), .int r.falls]
/-- what holds of every keeper -/
structure KOk (p : Pl) (st : Kst) : Prop where
  len : st.srvs.length = p.length
  lt : ∀ g ∈ st.goals, g < p.length
  nd : st.goals.Nodup
  falls : ∀ (i : Nat) (r : Srv) (s : Svc), st.srvs[i]? = some r → p[i]? = some s → 0 ≤ r.falls ∧ r.falls ≤ s.tries ∧ (r.word ≠ .given → r.falls < s.tries)
end Kr

namespace Kr
open PySem Dl
/-! ### the greatest sums along wants -/
def HgtAt (p : Pl) (c h : Nat → Int) (i : Nat) : Prop := ∃ m : Int, h i = c i + m ∧ 0 ≤ m ∧ (∀ j ∈ wantsOf p i, h j ≤ m) ∧ (m = 0 ∨ ∃ j ∈ wantsOf p i, m = h j)
def Lng (p : Pl) (c : Nat → Int) (L : Int) : Prop := ∃ h : Nat → Int, (∀ i, i < p.length → HgtAt p c h i) ∧ (∀ i, i < p.length → h i ≤ L) ∧ ∃ i, i < p.length ∧ L = h i
def cTak (p : Pl) (i : Nat) : Int := (svcAt p i).takes
def cEnd (p : Pl) (i : Nat) : Int := (svcAt p i).ends
def Wai (p : Pl) (W : Int) : Prop := 0 ≤ W ∧ (∀ (i : Nat) (s : Svc), p[i]? = some s → 1 < s.tries → waitF s.waits (s.tries - 2).toNat ≤ W) ∧ (W = 0 ∨ ∃ (i : Nat) (s : Svc), p[i]? = some s ∧ 1 < s.tries ∧ W = waitF s.waits (s.tries - 2).toNat)
end Kr

namespace Kr
open PySem Dl
/-! ### heights are told by the plan -/
theorem step_wants {p : Pl} {l : List Nat} {m : Nat} (h : IsStep p l m) : m < p.length ∧ ∀ j ∈ wantsOf p m, j ∈ l := by
  have hr := h.2.1
  unfold rdy at hr
  rw [Bool.and_eq_true, List.all_eq_true] at hr
  exact ⟨h.1, fun j hj => of_decide_eq_true (hr.2 j hj)⟩
theorem hgt_one {p : Pl} {c h h' : Nat → Int} {l : List Nat} (hl : Ord p l) (H : ∀ i, i < p.length → HgtAt p c h i) (H' : ∀ i, i < p.length → HgtAt p c h' i) : ∀ i ∈ l, h i = h' i := by
  induction hl with
  | nil => exact fun i hi => nomatch hi
  | @snoc l m _ hs ih =>
    intro i hi
    rcases List.mem_append.mp hi with hi | hi
    · exact ih i hi
    · rw [List.mem_singleton.mp hi]
      obtain ⟨hm, hw⟩ := step_wants hs
      obtain ⟨a, a1, a2, a3, a4⟩ := H m hm
      obtain ⟨b, b1, b2, b3, b4⟩ := H' m hm
      have e1 : a ≤ b := by
        rcases a4 with z | ⟨j, hj, z⟩
        · omega
        · have := b3 j hj
          have := ih j (hw j hj)
          omega
      have e2 : b ≤ a := by
        rcases b4 with z | ⟨j, hj, z⟩
        · omega
        · have := a3 j hj
          have := ih j (hw j hj)
          omega
      omega
theorem Lng.one {p : Pl} {c : Nat → Int} {L L' : Int} {l : List Nat} (hl : Ord p l) (hall : ∀ i, i < p.length → i ∈ l) (h : Lng p c L) (h' : Lng p c L') : L = L' := by
  obtain ⟨f, f1, f2, i, hi, f3⟩ := h
  obtain ⟨g, g1, g2, j, hj, g3⟩ := h'
  have e := hgt_one hl f1 g1
  have := g2 i hi
  have := f2 j hj
  have := e i (hall i hi)
  have := e j (hall j hj)
  omega
theorem Wai.one {p : Pl} {W W' : Int} (h : Wai p W) (h' : Wai p W') : W = W' := by
  obtain ⟨a1, a2, a3⟩ := h
  obtain ⟨b1, b2, b3⟩ := h'
  have e1 : W ≤ W' := by
    rcases a3 with z | ⟨i, s, hs, ht, z⟩
    · omega
    · have := b2 i s hs ht; omega
  have e2 : W' ≤ W := by
    rcases b3 with z | ⟨i, s, hs, ht, z⟩
    · omega
    · have := a2 i s hs ht; omega
  omega
end Kr

namespace Kr
open PySem PySem.Spec PyProof.Rows L2 Dl
open Evl (Ex)
structure KTxt (K : PySem.W.Frag) (CK CS : Addr) : Prop where
  clK : Cls K CK
  clS : Cls K CS
  k1 : NoAttr K CK "plan"
  k2 : NoAttr K CK "services"
  k3 : NoAttr K CK "goals"
  k4 : NoAttr K CK "rows"
  k5 : NoAttr K CK "beats"
  s1 : NoAttr K CS "plan"
  s2 : NoAttr K CS "word"
  s3 : NoAttr K CS "left"
  s4 : NoAttr K CS "falls"
structure KAd where
  sl : Addr
  gl : Addr
  rl : Addr
  sv : List Addr
structure KJ where
  me : Addr
  x : KAd
  p : Pl
  st : Kst
structure SvI where
  a : Addr
  s : Svc
  r : Srv
def srvF (s : Svc) (r : Srv) : List (Str × CV) := [("plan", .d (svcD s)), ("word", .d (.str r.word.s)), ("left", .d (.int r.left)), ("falls", .d (.int r.falls))]
def svCells (CS : Addr) : List Addr → Pl → List Srv → Cells
  | a :: sv, s :: p, r :: rs => (a, .ins CS (srvF s r)) :: svCells CS sv p rs
  | _, _, _ => []
def kepF (x : KAd) (p : Pl) (b : Int) : List (Str × CV) := [("plan", .d (planD p)), ("services", .r x.sl), ("goals", .r x.gl), ("rows", .r x.rl), ("beats", .d (.int b))]
def cellsK (CK CS : Addr) (j : KJ) : Cells := (j.me, .ins CK (kepF j.x j.p j.st.beats)) :: (j.x.sl, .lst (j.x.sv.map .r)) :: (j.x.gl, .lst ((listD j.st.goals).map .d)) :: (j.x.rl, .lst ((j.st.rows.map logD).map .d)) :: svCells CS j.x.sv j.p j.st.srvs
def RKx (K : PySem.W.Frag) (CK CS : Addr) (j : KJ) : Res := RH K j.me (cellsK CK CS j)
def RSv (K : PySem.W.Frag) (CS : Addr) (i : SvI) : Res := RH K i.a [(i.a, .ins CS (srvF i.s i.r))]
/-- a keeper as it must be -/
structure KWf (j : KJ) : Prop where
  good : Good j.p
  ok : KOk j.p j.st
  sv : j.x.sv.length = j.p.length
abbrev KJ.to (j : KJ) (st : Kst) : KJ := { j with st := st }
theorem svCells_at {CS : Addr} : ∀ {sv : List Addr} {p : Pl} {rs : List Srv} {i : Nat} {a : Addr} {s : Svc} {r : Srv}, sv[i]? = some a → p[i]? = some s → rs[i]? = some r →
    ∃ pre post, svCells CS sv p rs = pre ++ (a, .ins CS (srvF s r)) :: post ∧ ∀ r', svCells CS sv p (rs.set i r') = pre ++ (a, .ins CS (srvF s r')) :: post
  | a0 :: sv, s0 :: p, r0 :: rs, 0, a, s, r, h1, h2, h3 => by
    cases h1; cases h2; cases h3
    exact ⟨[], svCells CS sv p rs, rfl, fun r' => rfl⟩
  | a0 :: sv, s0 :: p, r0 :: rs, i + 1, a, s, r, h1, h2, h3 => by
    obtain ⟨pre, post, e1, e2⟩ := svCells_at (CS := CS) (sv := sv) (p := p) (rs := rs) (i := i) (a := a) (s := s) (r := r) (by simpa using h1) (by simpa using h2) (by simpa using h3)
    refine ⟨(a0, .ins CS (srvF s0 r0)) :: pre, post, ?_, fun r' => ?_⟩
    · show _ :: svCells CS sv p rs = _
      rw [e1]
      rfl
    · show _ :: svCells CS sv p (rs.set i r') = _
      rw [e2]
      rfl
  | [], _, _, _, _, _, _, h1, _, _ => by cases h1
  | _ :: _, [], _, _, _, _, _, _, h2, _ => by cases h2
  | _ :: _, _ :: _, [], _, _, _, _, _, _, h3 => by cases h3
section
variable {K : PySem.W.Frag} {CK CS : Addr} {j : KJ} {i : Nat} {a : Addr} {s : Svc} {r : Srv} {f : Str} {d : PyData} {C : Addr}
theorem cellsK_at (h1 : j.x.sv[i]? = some a) (h2 : j.p[i]? = some s) (h3 : j.st.srvs[i]? = some r) :
    ∃ pre post, cellsK CK CS j = pre ++ (a, .ins CS (srvF s r)) :: post ∧ ∀ r', cellsK CK CS (j.to (setSrv j.st i r')) = pre ++ (a, .ins CS (srvF s r')) :: post := by
  obtain ⟨pre, post, e1, e2⟩ := svCells_at (CS := CS) h1 h2 h3
  refine ⟨(j.me, .ins CK (kepF j.x j.p j.st.beats)) :: (j.x.sl, .lst (j.x.sv.map .r)) :: (j.x.gl, .lst ((listD j.st.goals).map .d)) :: (j.x.rl, .lst ((j.st.rows.map logD).map .d)) :: pre, post, ?_, fun r' => ?_⟩
  · show _ :: _ :: _ :: _ :: svCells CS j.x.sv j.p j.st.srvs = _
    rw [e1]
    rfl
  · show _ :: _ :: _ :: _ :: svCells CS j.x.sv j.p (j.st.srvs.set i r') = _
    rw [e2]
    rfl
theorem cellsK_mem (h1 : j.x.sv[i]? = some a) (h2 : j.p[i]? = some s) (h3 : j.st.srvs[i]? = some r) : (a, Cell.ins CS (srvF s r)) ∈ cellsK CK CS j := by
  obtain ⟨pre, post, e1, _⟩ := cellsK_at (CK := CK) (CS := CS) h1 h2 h3
  rw [e1]
  exact List.mem_append_right _ (List.mem_cons_self ..)
theorem rkx_at (j : KJ) (v : V) (B H : Hp) (M : Addr → Prop) (h : (RKx K CK CS j).P v B H M) : v = .ref j.me := h.1
theorem rsv_at (i : SvI) (v : V) (B H : Hp) (M : Addr → Prop) (h : (RSv K CS i).P v B H M) : v = .ref i.a := h.1
theorem rkx_ins {m : Str} (hm : ∀ x p b, (kepF x p b).lookup m = none) (j : KJ) (v : V) (B H : Hp) (M : Addr → Prop) (h : (RKx K CK CS j).P v B H M) : v = .ref j.me ∧ ∃ dx fs, H j.me = some (.ins CK dx fs) ∧ fs.lookup m = none := by
  obtain ⟨⟨dx, xs, e1, e2⟩, _⟩ := RH.get (K := K) (cs := cellsK CK CS j) h (List.mem_cons_self ..)
  exact ⟨h.1, dx, xs, e1, fsa_none e2 (hm _ _ _)⟩
/-- one cell in focus -/
theorem foc_cell {I : Type} {adr : I → Addr} {R : I → Res} {cell : I → Cell} {root : Addr} {pre post : Cells} (hR : ∀ i, R i = RH K (adr i) [(adr i, cell i)]) (i : I) : Foc adr (fun i' => RH K root (pre ++ (adr i', cell i') :: post)) R i := fun v B H M h => by
  have h' : (RH K root (pre ++ (adr i, cell i) :: post)).P v B H M := h
  obtain ⟨hc, hM⟩ := RH.get h' (List.mem_append_right _ (List.mem_cons_self ..))
  obtain ⟨h0, h1, h2, h3⟩ := h'
  refine ⟨fun c => c = adr i, ?_, fun c e => by rw [e]; exact hM, fun i' B2 H2 M1' ea e1 k hP hm => ?_⟩
  · rw [hR i]
    exact ⟨rfl, fun y hy => by rw [List.mem_singleton.mp hy]; exact hc, by simp, fun c => by simp⟩
  · rw [hR i'] at hP
    obtain ⟨_, g1, _, g3⟩ := hP
    have hk : (pre ++ (adr i', cell i') :: post).map (·.1) = (pre ++ (adr i, cell i) :: post).map (·.1) := by simp [ea]
    rw [List.map_append, List.map_cons] at h2
    have hn := List.nodup_append.mp h2
    have hnp : ∀ y ∈ pre, y.1 ≠ adr i := fun y hy z => hn.2.2 y.1 (List.mem_map.mpr ⟨y, hy, rfl⟩) _ (List.mem_cons_self ..) z
    have hnq : ∀ y ∈ post, y.1 ≠ adr i := fun y hy z => (List.nodup_cons.mp hn.2.1).1 (z ▸ List.mem_map.mpr ⟨y, hy, rfl⟩)
    have old : ∀ y ∈ pre ++ (adr i, cell i) :: post, y.1 ≠ adr i → CellAt K B2 (H2 y.1) y.2 := fun y hy hne => by
      rw [k y.1 ((h3 y.1).mpr (List.mem_map.mpr ⟨y, hy, rfl⟩)) hne]
      exact cell_mono e1 (h1 y hy)
    refine ⟨h0, fun y hy => ?_, by rw [hk, List.map_append, List.map_cons]; exact h2, fun c => ?_⟩
    · rcases List.mem_append.mp hy with hy | hy
      · exact old y (List.mem_append_left _ hy) (hnp y hy)
      · rcases List.mem_cons.mp hy with rfl | hy
        · exact g1 _ (List.mem_cons_self ..)
        · exact old y (List.mem_append_right _ (List.mem_cons_of_mem _ hy)) (hnq y hy)
    · rw [hk]
      constructor
      · rintro (⟨z, _⟩ | z)
        · exact (h3 c).mp z
        · have := (g3 c).mp z
          rw [List.map_cons, List.map_nil, List.mem_singleton] at this
          rw [this, ea]
          exact (h3 _).mp hM
      · intro z
        by_cases hc : c = adr i
        · exact .inr ((g3 c).mpr (by rw [hc, ← ea]; simp))
        · exact .inl ⟨(h3 c).mpr z, hc⟩
end
section
variable {K : PySem.W.Frag} {CK CS : Addr} {δ : List Slot} {te ta : TE} {tr : TA} {Φ : Slot → List Slot → Prop} {d : Dn} {j : KJ}
theorem evk_plan (T : KTxt K CK CS) (h0 : δ[0]? = some (.ow (RKx K CK CS j))) (h : Φ (.pu (planD j.p)) δ) : EvS K (tFld K (tVar 0) "plan") δ Φ :=
  ev_fldD (ev_al h0 ⟨0, _, j.me, _, ⟨h0, .inr ⟨rfl, rh_at⟩⟩, fld_d (List.mem_cons_self ..) rfl T.clK T.k1, h⟩)
theorem evk_beats (T : KTxt K CK CS) (h0 : δ[0]? = some (.ow (RKx K CK CS j))) (h : Φ (.pu (.int j.st.beats)) δ) : EvS K (tFld K (tVar 0) "beats") δ Φ :=
  ev_fldD (ev_al h0 ⟨0, _, j.me, _, ⟨h0, .inr ⟨rfl, rh_at⟩⟩, fld_d (List.mem_cons_self ..) rfl T.clK T.k5, h⟩)
theorem evk_services (T : KTxt K CK CS) (h0 : δ[0]? = some (.ow (RKx K CK CS j))) (h : Φ (.ow (RRef j.x.sl)) δ) : EvS K (tFld K (tVar 0) "services") δ Φ :=
  ev_fldR (ev_al h0 ⟨0, _, j.me, _, ⟨h0, .inr ⟨rfl, rh_at⟩⟩, fld_r (List.mem_cons_self ..) rfl T.clK T.k2, h⟩)
theorem evk_goals (T : KTxt K CK CS) (h0 : δ[0]? = some (.ow (RKx K CK CS j))) (h : Φ (.ow (RRef j.x.gl)) δ) : EvS K (tFld K (tVar 0) "goals") δ Φ :=
  ev_fldR (ev_al h0 ⟨0, _, j.me, _, ⟨h0, .inr ⟨rfl, rh_at⟩⟩, fld_r (List.mem_cons_self ..) rfl T.clK T.k3, h⟩)
theorem evk_rows (T : KTxt K CK CS) (h0 : δ[0]? = some (.ow (RKx K CK CS j))) (h : Φ (.ow (RRef j.x.rl)) δ) : EvS K (tFld K (tVar 0) "rows") δ Φ :=
  ev_fldR (ev_al h0 ⟨0, _, j.me, _, ⟨h0, .inr ⟨rfl, rh_at⟩⟩, fld_r (List.mem_cons_self ..) rfl T.clK T.k4, h⟩)
theorem shk_goals : Shows K (RKx K CK CS j) j.x.gl (listD j.st.goals) := shows_d (List.mem_cons_of_mem _ (List.mem_cons_of_mem _ (List.mem_cons_self ..)))
theorem shk_rows : Shows K (RKx K CK CS j) j.x.rl (j.st.rows.map logD) := shows_d (List.mem_cons_of_mem _ (List.mem_cons_of_mem _ (List.mem_cons_of_mem _ (List.mem_cons_self ..))))
theorem shk_services : ShowsR (RKx K CK CS j) j.x.sl j.x.sv := shows_r (List.mem_cons_of_mem _ (List.mem_cons_self ..))
/-- a slot that refers to the service i of the keeper at slot 0 -/
def SvRef (K : PySem.W.Frag) (CK CS : Addr) (δ : List Slot) (s : Slot) (j : KJ) (i : Nat) (a : Addr) (sv : Svc) (r : Srv) : Prop := s = .ow (RRef a) ∧ δ[0]? = some (.ow (RKx K CK CS j)) ∧ j.x.sv[i]? = some a ∧ j.p[i]? = some sv ∧ j.st.srvs[i]? = some r
theorem evs_word (T : KTxt K CK CS) (h : EvS K ta δ fun s δ1 => ∃ j i a sv r, SvRef K CK CS δ1 s j i a sv r ∧ Φ (.pu (.str r.word.s)) δ1) : EvS K (tFld K ta "word") δ Φ :=
  ev_fldD (h.imp fun s δ1 ⟨j, i, a, sv, r, ⟨es, h0, h1, h2, h3⟩, q⟩ => ⟨0, _, a, _, ⟨h0, .inl es⟩, fld_d (cellsK_mem h1 h2 h3) rfl T.clS T.s2, q⟩)
theorem evs_left (T : KTxt K CK CS) (h : EvS K ta δ fun s δ1 => ∃ j i a sv r, SvRef K CK CS δ1 s j i a sv r ∧ Φ (.pu (.int r.left)) δ1) : EvS K (tFld K ta "left") δ Φ :=
  ev_fldD (h.imp fun s δ1 ⟨j, i, a, sv, r, ⟨es, h0, h1, h2, h3⟩, q⟩ => ⟨0, _, a, _, ⟨h0, .inl es⟩, fld_d (cellsK_mem h1 h2 h3) rfl T.clS T.s3, q⟩)
theorem evs_falls (T : KTxt K CK CS) (h : EvS K ta δ fun s δ1 => ∃ j i a sv r, SvRef K CK CS δ1 s j i a sv r ∧ Φ (.pu (.int r.falls)) δ1) : EvS K (tFld K ta "falls") δ Φ :=
  ev_fldD (h.imp fun s δ1 ⟨j, i, a, sv, r, ⟨es, h0, h1, h2, h3⟩, q⟩ => ⟨0, _, a, _, ⟨h0, .inl es⟩, fld_d (cellsK_mem h1 h2 h3) rfl T.clS T.s4, q⟩)
theorem evs_plan (T : KTxt K CK CS) (h : EvS K ta δ fun s δ1 => ∃ j i a sv r, SvRef K CK CS δ1 s j i a sv r ∧ Φ (.pu (svcD sv)) δ1) : EvS K (tFld K ta "plan") δ Φ :=
  ev_fldD (h.imp fun s δ1 ⟨j, i, a, sv, r, ⟨es, h0, h1, h2, h3⟩, q⟩ => ⟨0, _, a, _, ⟨h0, .inl es⟩, fld_d (cellsK_mem h1 h2 h3) rfl T.clS T.s1, q⟩)
/-- self.services[e] -/
theorem evk_ix (T : KTxt K CK CS) (h0 : δ[0]? = some (.ow (RKx K CK CS j))) (h : EvS K te δ fun s δ1 => ∃ (j : KJ) (i : Nat) (a : Addr), δ1[0]? = some (.ow (RKx K CK CS j)) ∧ j.x.sl = b ∧ s = .pu (.int (i : Int)) ∧ j.x.sv[i]? = some a ∧ Φ (.ow (RRef a)) δ1) (hb : j.x.sl = b) : EvS K (tOp (rIxL K) (tFld K (tVar 0) "services") te) δ Φ :=
  ev_ixRef (evk_services T h0 (h.imp fun s δ1 ⟨j2, i, a, h1, hb2, es, ha, q⟩ => ⟨_, 0, _, j2.x.sv, (i : Int), a, rfl, h1, by rw [hb, ← hb2]; exact shk_services, es, atI_nat' ha, q⟩))
/-- a method of a service that the keeper at slot 0 holds -/
theorem evs_meth {m : Str} {n : Nat} {pre : SvI → List PyData → Prop} {T' : SvI → List PyData → SvI → Slot → Prop} {E : XK} (hm : ∀ s r, (srvF s r).lookup m = none) (hT : ∀ i ds i' s, T' i ds i' s → i'.s = i.s)
    (h : EvS K ta δ fun s δ1 => ∃ j i a sv r, SvRef K CK CS δ1 s j i a sv r ∧ EvDs K tr δ1 fun ds δ2 => δ2 = δ1 ∧ ds.length = n ∧ pre ⟨a, sv, r⟩ ds ∧ ∀ r' s', T' ⟨a, sv, r⟩ ds ⟨a, sv, r'⟩ s' → Φ s' (δ1.set 0 (.ow (RKx K CK CS (j.to (setSrv j.st i r')))))) :
    EvS K (tMeth CS m (spM K SvI.a (RSv K CS) n pre T') [] E ta tr) δ Φ :=
  ev_methR (h.imp fun s δ1 ⟨j, i, a, sv, r, ⟨es, h0, h1, h2, h3⟩, p⟩ => ⟨a, 0, _, es, h0, fun v B H M hP => by
    obtain ⟨⟨dx, xs, e1, e2⟩, _⟩ := RH.get (K := K) (cs := cellsK CK CS j) hP (cellsK_mem h1 h2 h3)
    exact ⟨dx, xs, e1, fsa_none e2 (hm _ _)⟩, fun B H σ F Q S k => p B H σ F Q S fun vs ds B2 H2 δ2 e f S2 ha ⟨eδ, hn, hp, q⟩ => k vs ds B2 H2 δ2 e f S2 ha (by
      obtain ⟨pre', post, e1, e2⟩ := cellsK_at (CK := CK) (CS := CS) h1 h2 h3
      subst eδ
      refine ⟨0, fun (i' : SvI) => RH K j.me (pre' ++ (i'.a, .ins CS (srvF i'.s i'.r)) :: post), ⟨a, sv, r⟩, rfl, by rw [h0]; unfold RKx; rw [e1], foc_cell (cell := fun (i' : SvI) => .ins CS (srvF i'.s i'.r)) (fun _ => rfl) _, hn, hp, fun i' s' ea hT' => ?_⟩
      obtain ⟨a', sv', r'⟩ := i'
      cases (show a' = a from ea)
      cases (show sv' = sv from hT _ _ _ _ hT')
      have := q r' s' hT'
      unfold RKx at this
      rw [e2] at this
      exact this)⟩)
/-- self.services[..].f = e, service.f = e -/
theorem xss_fld {f : Str} {upd : PyData → Srv → Srv} (T : KTxt K CK CS) (hn : NoAttr K CS f) (hu : ∀ x s r, putC f (.d x) (srvF s r) = srvF s (upd x r)) (h : EvD K te δ fun x δ1 => EvS K ta δ1 fun s δ2 => ∃ j i a sv r, SvRef K CK CS δ2 s j i a sv r ∧ d.nx (δ2.set 0 (.ow (RKx K CK CS (j.to (setSrv j.st i (upd x r))))))) : ExS K (sFld K ta te f) d δ :=
  xs_fldD fun B H σ F Q S k => h B H σ F Q S fun v x B2 H2 δ2 e f' S2 hd p => k v x B2 H2 δ2 e f' S2 hd (p.imp fun s δ3 ⟨j, i, a, sv, r, ⟨es, h0, h1, h2, h3⟩, q⟩ => by
    obtain ⟨pre', post, e1, e2⟩ := cellsK_at (CK := CK) (CS := CS) h1 h2 h3
    refine ⟨0, _, _, a, ⟨h0, .inl es⟩, put_d (cs' := fun c => pre' ++ (a, c) :: post) ⟨pre', post, e1, fun _ => rfl⟩ T.clS hn (by show 4 < 1000; decide), ?_⟩
    rw [hu]
    unfold RKx at q
    rw [e2] at q
    exact q)
/-- self.beats = e -/
theorem xsk_beats (T : KTxt K CK CS) (h : EvD K te δ fun x δ1 => ∃ j b, x = .int b ∧ δ1[0]? = some (.ow (RKx K CK CS j)) ∧ d.nx (δ1.set 0 (.ow (RKx K CK CS (j.to { j.st with beats := b }))))) : ExS K (sFld K (tVar 0) te "beats") d δ :=
  xs_fldD fun B H σ F Q S k => h B H σ F Q S fun v x B2 H2 δ2 e f' S2 hd ⟨j, b, ex, h0, q⟩ => k v x B2 H2 δ2 e f' S2 hd (ev_al h0 ⟨0, _, _, j.me, ⟨h0, .inr ⟨rfl, rh_at⟩⟩, put_d (cs' := fun c => (j.me, c) :: (cellsK CK CS j).tail) ⟨[], _, rfl, fun _ => rfl⟩ T.clK T.k5 (by show 5 < 1000; decide), by
    subst ex
    exact q⟩)
theorem app_goals {g : Nat} (hl : j.st.goals.length < 100000) : AppD K (RKx K CK CS j) (RKx K CK CS (j.to { j.st with goals := j.st.goals ++ [g] })) j.x.gl (.int (g : Int)) := by
  have h := app_d (K := K) (root := j.me) (cs := cellsK CK CS j) (a := j.x.gl) (x := .int (g : Int)) (xs := (listD j.st.goals).map .d) (cs' := fun c => (j.me, .ins CK (kepF j.x j.p j.st.beats)) :: (j.x.sl, .lst (j.x.sv.map .r)) :: (j.x.gl, c) :: (cellsK CK CS j).tail.tail.tail) ⟨[(j.me, .ins CK (kepF j.x j.p j.st.beats)), (j.x.sl, .lst (j.x.sv.map .r))], _, rfl, fun _ => rfl⟩ (by rw [List.length_map, listD_len]; exact hl)
  have e3 : (listD j.st.goals).map CV.d ++ [CV.d (.int (g : Int))] = (listD (j.st.goals ++ [g])).map CV.d := by rw [listD_app, List.map_append]; rfl
  rw [e3] at h
  exact h
theorem app_rows {g : LRow} (hl : j.st.rows.length < 100000) : AppD K (RKx K CK CS j) (RKx K CK CS (j.to { j.st with rows := j.st.rows ++ [g] })) j.x.rl (logD g) := by
  have h := app_d (K := K) (root := j.me) (cs := cellsK CK CS j) (a := j.x.rl) (x := logD g) (xs := (j.st.rows.map logD).map .d) (cs' := fun c => (j.me, .ins CK (kepF j.x j.p j.st.beats)) :: (j.x.sl, .lst (j.x.sv.map .r)) :: (j.x.gl, .lst ((listD j.st.goals).map .d)) :: (j.x.rl, c) :: (cellsK CK CS j).tail.tail.tail.tail) ⟨[(j.me, .ins CK (kepF j.x j.p j.st.beats)), (j.x.sl, .lst (j.x.sv.map .r)), (j.x.gl, .lst ((listD j.st.goals).map .d))], _, rfl, fun _ => rfl⟩ (by rw [List.length_map, List.length_map]; exact hl)
  have e3 : (j.st.rows.map logD).map CV.d ++ [CV.d (logD g)] = ((j.st.rows ++ [g]).map logD).map CV.d := by rw [List.map_append, List.map_append]; rfl
  rw [e3] at h
  exact h
/-- self.goals.append(e), self.rows.append(e) -/
theorem evk_appG (T : KTxt K CK CS) (h0 : δ[0]? = some (.ow (RKx K CK CS j))) (h : EvD K te δ fun x δ1 => ∃ (j2 : KJ) (g : Nat), j2.x.gl = j.x.gl ∧ δ1[0]? = some (.ow (RKx K CK CS j2)) ∧ x = .int (g : Int) ∧ j2.st.goals.length < 100000 ∧ Φ (.pu .none) (δ1.set 0 (.ow (RKx K CK CS (j2.to { j2.st with goals := j2.st.goals ++ [g] }))))) : EvS K (tBM K "list" rAppend (tFld K (tVar 0) "goals") (tCons te tNil)) δ Φ :=
  ev_appR (evk_goals T h0 ⟨_, 0, _, _, rfl, h0, shk_goals, fun B H σ F Q S k => h B H σ F Q S fun v x B2 H2 δ2 e f' S2 hd ⟨j2, g, eg, h1, ex, hl, q⟩ => k v x B2 H2 δ2 e f' S2 hd ⟨0, _, _, h1, by rw [ex, ← eg]; exact app_goals hl, q⟩⟩)
theorem evk_appL (T : KTxt K CK CS) (h0 : δ[0]? = some (.ow (RKx K CK CS j))) (h : EvD K te δ fun x δ1 => ∃ (j2 : KJ) (g : LRow), j2.x.rl = j.x.rl ∧ δ1[0]? = some (.ow (RKx K CK CS j2)) ∧ x = logD g ∧ j2.st.rows.length < 100000 ∧ Φ (.pu .none) (δ1.set 0 (.ow (RKx K CK CS (j2.to { j2.st with rows := j2.st.rows ++ [g] }))))) : EvS K (tBM K "list" rAppend (tFld K (tVar 0) "rows") (tCons te tNil)) δ Φ :=
  ev_appR (evk_rows T h0 ⟨_, 0, _, _, rfl, h0, shk_rows, fun B H σ F Q S k => h B H σ F Q S fun v x B2 H2 δ2 e f' S2 hd ⟨j2, g, eg, h1, ex, hl, q⟩ => k v x B2 H2 δ2 e f' S2 hd ⟨0, _, _, h1, by rw [ex, ← eg]; exact app_rows hl, q⟩⟩)
/-- self.goals = [..] -/
theorem xsk_goals (T : KTxt K CK CS) (h : EvS K te δ fun s1 δ1 => ∃ (j : KJ) (gs : List Nat), s1 = .ow (RL K (listD gs)) ∧ δ1[0]? = some (.ow (RKx K CK CS j)) ∧ ∀ gl, d.nx (δ1.set 0 (.ow (RKx K CK CS { j with x := { j.x with gl := gl }, st := { j.st with goals := gs } })))) : ExS K (sFld K (tVar 0) te "goals") d δ :=
  xs_fldN (h.imp fun s1 δ1 ⟨j, gs, es, h0, q⟩ => ⟨_, es, ev_al h0 ⟨0, _, _, j.me, ⟨h0, .inr ⟨rfl, rh_at⟩⟩, fun v B H M r xs hP hr hx hM => by
    have h := hP
    obtain ⟨⟨dx, ys, e1, e2⟩, hMe⟩ := RH.get (K := K) (cs := cellsK CK CS j) h (List.mem_cons_self ..)
    refine ⟨CK, dx, ys, e1, hMe, T.clK, T.k3, by rw [fsa_len e2]; show 5 < 1000; decide, ?_⟩
    obtain ⟨h0', h1, h2, h3⟩ := hP
    have nr : ∀ y ∈ cellsK CK CS j, y.1 ≠ r := fun y hy e => hM ((h3 r).mpr (e ▸ List.mem_map.mpr ⟨y, hy, rfl⟩))
    have h2' := h2
    unfold cellsK at h2'
    simp only [List.map_cons, List.nodup_cons, List.mem_cons, not_or] at h2'
    obtain ⟨⟨a1, a2, a3, a4⟩, ⟨b1, b2, b3⟩, ⟨c1, c2⟩, ⟨d1, d2⟩⟩ := h2'
    have rne : ∀ y ∈ svCells CS j.x.sv j.p j.st.srvs, y ∈ cellsK CK CS j := fun y hy => List.mem_cons_of_mem _ (List.mem_cons_of_mem _ (List.mem_cons_of_mem _ (List.mem_cons_of_mem _ hy)))
    have m1 : (j.me, Cell.ins CK (kepF j.x j.p j.st.beats)) ∈ cellsK CK CS j := List.mem_cons_self ..
    have m2 : (j.x.sl, Cell.lst (j.x.sv.map .r)) ∈ cellsK CK CS j := List.mem_cons_of_mem _ (List.mem_cons_self ..)
    have m4 : (j.x.rl, Cell.lst ((j.st.rows.map logD).map .d)) ∈ cellsK CK CS j := List.mem_cons_of_mem _ (List.mem_cons_of_mem _ (List.mem_cons_of_mem _ (List.mem_cons_self ..)))
    have sn : ∀ y ∈ svCells CS j.x.sv j.p j.st.srvs, y.1 ≠ j.me := fun y hy e => a4 (e ▸ List.mem_map.mpr ⟨y, hy, rfl⟩)
    refine ⟨fun c => c ∈ (cellsK CK CS { j with x := { j.x with gl := r }, st := { j.st with goals := gs } }).map (·.1), ⟨h0', fun y hy => ?_, ?_, fun _ => Iff.rfl⟩, fun c hc => ?_⟩
    · rcases List.mem_cons.mp hy with rfl | hy
      · show CellAt K B (upd H j.me _ j.me) _
        rw [upd_same]
        exact ⟨dx, _, rfl, fsa_put (c := .r r) rfl e2⟩
      rcases List.mem_cons.mp hy with rfl | hy
      · show CellAt K B (upd H j.me _ j.x.sl) _
        rw [upd_ne (fun e => a1 e.symm)]
        exact h1 _ m2
      rcases List.mem_cons.mp hy with rfl | hy
      · show CellAt K B (upd H j.me _ r) _
        rw [upd_ne (fun e => nr _ m1 e.symm)]
        exact ⟨xs, hr, cva_data hx⟩
      rcases List.mem_cons.mp hy with rfl | hy
      · show CellAt K B (upd H j.me _ j.x.rl) _
        rw [upd_ne (fun e => a3 e.symm)]
        exact h1 _ m4
      · rw [upd_ne (sn y hy)]
        exact h1 _ (rne y hy)
    · unfold cellsK
      simp only [List.map_cons, List.nodup_cons, List.mem_cons, not_or]
      refine ⟨⟨a1, nr _ m1, a3, a4⟩, ⟨nr _ m2, b2, b3⟩, ⟨fun e => nr _ m4 e.symm, fun e => ?_⟩, d1, d2⟩
      obtain ⟨y, hy, ey⟩ := List.mem_map.mp e
      exact nr y (rne y hy) ey
    · obtain ⟨y, hy, rfl⟩ := List.mem_map.mp hc
      rcases List.mem_cons.mp hy with rfl | hy
      · exact .inl ((h3 _).mpr (List.mem_map.mpr ⟨_, m1, rfl⟩))
      rcases List.mem_cons.mp hy with rfl | hy
      · exact .inl ((h3 _).mpr (List.mem_map.mpr ⟨_, m2, rfl⟩))
      rcases List.mem_cons.mp hy with rfl | hy
      · exact .inr rfl
      rcases List.mem_cons.mp hy with rfl | hy
      · exact .inl ((h3 _).mpr (List.mem_map.mpr ⟨_, m4, rfl⟩))
      · exact .inl ((h3 _).mpr (List.mem_map.mpr ⟨_, rne y hy, rfl⟩)), q⟩⟩)
end
end Kr

local macro_rules | `(tactic| fail "krn") => `(tactic| first
  | ((with_reducible show Dl.ExS _ _ _ (List.set _ _ _)); conv => arg 4; simp only [List.set_cons_zero, List.set_cons_succ])
  | ((with_reducible show Dl.EvS _ _ (List.set _ _ _) _); conv => arg 3; simp only [List.set_cons_zero, List.set_cons_succ])
  | ((with_reducible show Dl.EvD _ _ (List.set _ _ _) _); conv => arg 3; simp only [List.set_cons_zero, List.set_cons_succ])
  | ((with_reducible show Dl.EvT _ _ (List.set _ _ _) _); conv => arg 3; simp only [List.set_cons_zero, List.set_cons_succ])
  | ((with_reducible show Dl.EvDs _ _ (List.set _ _ _) _); conv => arg 3; simp only [List.set_cons_zero, List.set_cons_succ]))
local macro_rules | `(tactic| fail "krV") => `(tactic| first
  | with_reducible refine Dl.ev_pu rfl ?_
  | with_reducible refine Dl.ev_al rfl ?_)
local macro_rules | `(tactic| fail "krC") => `(tactic| first
  | with_reducible refine Dl.ev_int ?_
  | with_reducible refine Dl.ev_str ?_
  | with_reducible refine Dl.ev_bl ?_
  | with_reducible refine Dl.ev_non ?_
  | with_reducible refine Dl.ev_c (by assumption) ?_)
local macro_rules | `(tactic| fail "krS") => `(tactic| first
  | ((with_reducible apply Dl.ev_Dix); (exact rfl); (first | exact Dl.atI_nat' (i := 0) rfl | exact Dl.atI_nat' (i := 1) rfl))
  | ((with_reducible apply Dl.ev_Dlen); (exact rfl))
  | with_reducible refine Dl.ev_I0 ?_
  | with_reducible refine Dl.ev_I ?_
  | with_reducible refine Dl.ev_B0 ?_
  | with_reducible refine Dl.ev_neg ?_
  | with_reducible refine Dl.ev_eqX ?_
  | with_reducible refine Dl.ev_neX ?_
  | with_reducible refine Dl.ev_inX ?_
  | with_reducible refine Dl.ev_neNil ?_
  | with_reducible refine Dl.ev_eqNil ?_
  | with_reducible refine Dl.ev_eqD ?_
  | with_reducible refine Dl.ev_neD ?_
  | with_reducible refine Dl.ev_isN ?_
  | with_reducible refine Dl.ev_notN ?_
  | with_reducible refine Dl.ev_ixL ?_
  | with_reducible refine Dl.ev_ixT ?_
  | with_reducible refine Dl.ev_ixB ?_
  | with_reducible refine Dl.ev_catA ?_
  | with_reducible refine Dl.ev_tup ?_
  | with_reducible refine Dl.ev_lst ?_
  | with_reducible refine Dl.ev_andV ?_
  | with_reducible refine Dl.ev_orV ?_
  | with_reducible refine Dl.ev_notV ?_
  | with_reducible refine Dl.ev_if ?_
  | with_reducible refine Dl.ev_chain ?_
  | with_reducible refine Dl.ev_len ?_
  | with_reducible refine Dl.ev_list ?_
  | with_reducible refine Dl.ev_tuple ?_
  | with_reducible refine Dl.ev_sortedSet ?_
  | with_reducible refine Dl.ev_sorted ?_
  | with_reducible refine Dl.ev_max ?_
  | with_reducible refine Dl.ev_min ?_
  | with_reducible refine Dl.ev_sum ?_
  | with_reducible refine Dl.ev_all ?_
  | with_reducible refine Dl.ev_abs ?_
  | with_reducible refine Dl.ev_strI ?_
  | with_reducible refine Dl.ev_intB ?_
  | with_reducible refine Dl.ev_intB2 ?_
  | ((with_reducible apply Dl.ev_off); (exact rfl))
  | with_reducible refine Dl.ev_isi Dl.good_int (fun _ => Dl.isi_int) ?_
  | with_reducible refine Dl.ev_isi Dl.good_bool (fun _ => Dl.isi_bool) ?_
  | with_reducible refine Dl.ev_isi Dl.good_str (fun _ => Dl.isi_str) ?_
  | with_reducible refine Dl.ev_isi Dl.good_list (fun _ => Dl.isi_list) ?_
  | with_reducible refine Dl.ev_isi Dl.good_tuple (fun _ => Dl.isi_tup) ?_
  | with_reducible refine Dl.ev_listRg1 ?_
  | with_reducible refine Dl.ev_joinS ?_
  | with_reducible refine Dl.ev_splitS ?_
  | with_reducible refine Dl.ev_ixS ?_
  | with_reducible refine Dl.ev_inSg ?_
  | with_reducible refine Dl.ev_notInSg ?_
  | with_reducible refine Dl.ev_intS ?_
  | with_reducible refine Dl.ev_lenS ?_
  | with_reducible refine Dl.ev_rep ?_
  | with_reducible refine Dl.ev_cat ?_
  | with_reducible refine Dl.ev_slL ?_
  | with_reducible refine Dl.ev_catS ?_
  | with_reducible refine Dl.ev_slT ?_
  | with_reducible refine Dl.ev_dnew ?_
  | with_reducible refine Dl.ev_dnotin ?_
  | ((with_reducible refine Dl.ev_append ?_ ?_); rotate_left; (intro R hR; cases hR; exact ⟨_, rfl⟩); refine ⟨_, rfl, ?_⟩))
local macro_rules | `(tactic| fail "krX") => `(tactic| first
  | (with_reducible refine Dl.xs_Dset ?_)
  | (with_reducible refine Dl.xs_seq ?_; try dsimp only)
  | with_reducible refine Dl.xs_retN ?_
  | with_reducible refine Dl.xs_drop ?_
  | with_reducible refine Dl.xs_asg ?_
  | with_reducible refine Dl.xs_if ?_
  | with_reducible refine Dl.xs_next ?_
  | with_reducible refine Dl.xs_break ?_
  | with_reducible refine Dl.xs_dput ?_
  | with_reducible refine Dl.xs_setL ?_)
local macro_rules | `(tactic| fail "krT") => `(tactic| first
  | with_reducible refine Dl.et_B ?_
  | with_reducible refine Dl.et_test ?_
  | with_reducible refine Dl.et_and ?_
  | with_reducible refine Dl.et_or ?_
  | with_reducible refine Dl.et_not ?_
  | with_reducible refine Dl.et_yes ?_)
local macro_rules | `(tactic| fail "krR2") => `(tactic| first
  | (refine ⟨rfl, _, rfl, (by decide), (by decide), ?_⟩; show ∀ x : Nat, (x : Int) < _ → _)
  | with_reducible refine Dl.eo_none ?_
  | with_reducible refine Dl.eo_some ?_
  | (refine ⟨show List.length _ ≤ 100000 from Nat.le_of_ble_eq_true rfl, ?_⟩)
  | (refine ⟨Nat.le_of_ble_eq_true rfl, _, (show Dl.asn _ _ _ _ from by first | exact rfl | exact ⟨_, rfl, rfl⟩), ?_⟩)
  | (refine ⟨_, _, _, rfl, rfl, rfl, ?_⟩)
  | (refine ⟨_, _, rfl, rfl, ?_⟩)
  | (refine ⟨_, rfl, ?_⟩)
  | (refine Or.inl ⟨_, _, rfl, rfl, ?_⟩)
  | (refine Or.inr (Or.inl ⟨_, _, rfl, rfl, ?_⟩))
  | (refine Or.inl ⟨_, _, rfl, Or.inl (Dl.den_al rfl), ?_⟩)
  | (refine Or.inl ⟨_, _, rfl, Or.inl Dl.den_pu, ?_⟩)
  | (refine Or.inl ⟨_, _, rfl, Or.inr Dl.den_pu, ?_⟩)
  | (refine Or.inl ⟨_, _, rfl, Or.inl Dl.den_ow, ?_⟩)
  | (refine Or.inr (Or.inl ⟨_, _, rfl, Or.inl (Dl.den_al rfl), ?_⟩))
  | (refine Or.inr (Or.inl ⟨_, _, rfl, Or.inl Dl.den_pu, ?_⟩))
  | (refine Or.inr (Or.inl ⟨_, _, rfl, Or.inr Dl.den_pu, ?_⟩))
  | (refine Or.inr (Or.inl ⟨_, _, rfl, Or.inl Dl.den_ow, ?_⟩))
  | (refine Or.inr (Or.inr ⟨_, _, rfl, rfl, rfl, ?_⟩))
  | (refine ⟨_, Dl.den_pu, ?_⟩)
  | (refine ⟨_, Dl.frz_pu, ?_⟩)
  | (refine ⟨_, Dl.frz_ow, ?_⟩)
  | (refine ⟨_, Or.inl Dl.den_pu, ?_⟩)
  | (refine ⟨_, Or.inr Dl.den_pu, ?_⟩)
  | (refine ⟨_, Or.inl (Dl.den_al rfl), ?_⟩)
  | (refine ⟨_, Or.inl Dl.den_ow, ?_⟩)
  | (refine ⟨_, Dl.den_ow, ?_⟩)
  | (refine ⟨_, Dl.den_al rfl, ?_⟩)
  | (refine ⟨_, _, Dl.den_ow, Dl.den_ow, ?_⟩)
  | (refine ⟨_, _, Dl.den_al rfl, Dl.den_ow, ?_⟩)
  | (refine ⟨_, _, Dl.den_ow, Dl.den_al rfl, ?_⟩)
  | (refine ⟨_, _, Dl.den_al rfl, Dl.den_al rfl, ?_⟩)
  | (refine ⟨_, _, Dl.den_pu, Dl.den_pu, ?_⟩))
local macro_rules | `(tactic| fail "krR") => `(tactic| first
  | ((with_reducible show @ite _ _ _ _ _); first | refine Dl.ifT rfl ?_ | refine Dl.ifF rfl ?_)
  | ((fail_if_success (with_reducible show @ite _ _ _ _ _)); fail "krR2"))
local macro_rules | `(tactic| fail "kre1") => `(tactic| first
  | fail "krn"
  | ((with_reducible show Dl.EvS _ (L2.tVar _) _ _); fail "krV")
  | ((with_reducible show Dl.EvS _ (L2.tC _) _ _); fail "krC")
  | ((with_reducible show Dl.EvS _ _ _ _); fail "krS")
  | ((with_reducible show Dl.ExS _ _ _ _); fail "krX")
  | ((with_reducible show Dl.EvT _ _ _ _); fail "krT")
  | ((with_reducible show Dl.EvD _ _ _ _); with_reducible refine Dl.ed_of ?_)
  | ((with_reducible show Dl.EvDs _ _ _ _); first | with_reducible refine Dl.eds_cons ?_ | with_reducible refine Dl.eds_nil ?_)
  | ((with_reducible show Dl.EvA _ _ _ _); first | with_reducible refine Dl.ea_cons ?_ | with_reducible refine Dl.ea_nil ?_)
  | fail "krR")
local macro_rules | `(tactic| fail "kr1") => `(tactic| first | with_reducible refine Dl.xs_ret ?_ | fail "kre1")
local macro_rules | `(tactic| fail "krE") => `(tactic| repeat fail "kre1")
local macro_rules | `(tactic| fail "kr") => `(tactic| repeat fail "kr1")
local macro_rules | `(tactic| fail "krK") => `(tactic| dsimp only [L2.cxOf])
local macro_rules | `(tactic| fail "krA") => `(tactic| (refine ⟨Nat.le_of_ble_eq_true rfl, _, (by first | exact rfl | exact ⟨_, rfl, rfl⟩), ?_⟩; first | (show Dl.ExS _ _ _ _; conv => arg 4; simp only [List.set_cons_zero, List.set_cons_succ]) | skip))
local macro_rules | `(tactic| fail "kr den") => `(tactic| first | exact Dl.den_pu | exact Dl.den_ow | exact Dl.den_al rfl)
namespace Kr
open PySem PySem.Spec PyProof.Rows L2 Dl
open Evl (Ex)
def betw : PyData → Int → Int → Bool
  | .int i, lo, hi => decide (lo ≤ i) && decide (i ≤ hi)
  | _, _, _ => false
theorem filter_no {α : Type} (xs : List α) : xs.filter (fun _ => false) = [] := by induction xs with | nil => rfl | cons x r ih => rw [List.filter_cons, ih]; rfl
theorem shaped_nilL : SeqAt.shaped (.list []) = true := by decide +kernel
theorem betw_yes {i lo hi : Int} (h : lo ≤ i) (h2 : i ≤ hi) : betw (.int i) lo hi = true := by simp [betw, h, h2]
def boundsD : PyData := .tuple [.tuple [.int 1, .int 20], .tuple [.int 1, .int 20], .tuple [.int 1, .int 20], .tuple [.int 1, .int 50], .tuple [.int 1, .int 9]]
section
variable {P : Program} {w : World} {K : PySem.W.Frag} {mg : Str → Option Value} {base : Heap}
def pBetween (ds : List PyData) : Prop := ∃ x lo hi, ds = [x, .int lo, .int hi]
def tBetween (ds : List PyData) (r : Rt) : Prop := ∀ x lo hi, ds = [x, .int lo, .int hi] → r = .d (.bool (betw x lo hi))
theorem ok_is_between (D : Df K mg "is_between" s_is_between ["part", "low", "high"]) (B : Bn mg) : Cal P w K mg base 1 "is_between" (spP K 3 pBetween tBetween) := by
  have nd := sc_is_between.nd
  refine calP D sc_is_between rfl fun f cdv A outer s H E hr => ⟨_, (pss_one (ps_ret (pe_and (pe_callB (Kk.call_isi (K := K)) (by rfl) B.isinstance (by decide +kernel) (pa_cons (pv 0) (pa_cons (pe_bltn (v := .ty "int") (u := .type "int") (by rfl) B.int (by decide +kernel) rfl) pa_nil))) (pe_and (pe_not (pe_callB (Kk.call_isi (K := K)) (by rfl) B.isinstance (by decide +kernel) (pa_cons (pv 0) (pa_cons (pe_bltn (v := .ty "bool") (u := .type "bool") (by rfl) B.bool (by decide +kernel) rfl) pa_nil)))) (pe_one (pe_chain op_le op_le (pv 1) (pv 0) (pv 2))))))), fun ds hn hp => ?_⟩
  obtain ⟨x, lo, hi, rfl⟩ := hp
  show ExS K _ _ [.pu x, .pu (.int lo), .pu (.int hi)]
  fail "kr"
  cases x with
  | int i =>
    fail "kr"
    refine ifB (fun h1 => ?_) (fun h1 => ?_)
    · fail "kr"
      exact rt_d fun x lo hi e => by cases e; simp [betw, h1]
    · exact rt_d fun x lo hi e => by cases e; simp [betw, h1]
  | _ => fail "kr"; exact rt_d fun x lo hi e => by cases e; rfl
def pSvc (ds : List PyData) : Prop := ∃ (s : Svc) (m i : Nat), ds = [svcD s, .int (m : Int), .int (i : Int)] ∧ GoodS m i s ∧ m ≤ 12
def tTrue (_ : List PyData) (r : Rt) : Prop := r = .d (.bool true)
theorem ok_is_service (D : Df K mg "is_service" s_is_service ["service", "many", "number"]) (B : Bn mg) (c_is_between : Cal P w K mg base 1 "is_between" (spP K 3 pBetween tBetween)) (hB : Cst K mg "BOUNDS" boundsD) :
    Cal P w K mg base 2 "is_service" (spP K 3 pSvc tTrue) := by
  have nd := sc_is_service.nd
  obtain ⟨vB, uB, hmB, rB, dB⟩ := hB.ex
  have g_BOUNDS : ∃ u, mg "BOUNDS" = some u ∧ RelV vB u := ⟨uB, hmB, rB⟩
  refine calP D sc_is_service rfl fun f cdv A outer st H E hr => ⟨_, (pss_cons (ps_if (PW.pt (pw_or (pt_not (pt_val (pe_callB (Kk.call_isi (K := K)) (by rfl) B.isinstance (by decide +kernel) (pa_cons (pv 0) (pa_cons (pe_bltn (v := .ty "tuple") (u := .type "tuple") (by rfl) B.tuple (by decide +kernel) rfl) pa_nil))))) (pw_or (pt_cmpR op_ne (pe_callB (Kk.call_len_seq (K := K)) (by rfl) B.len (by decide +kernel) (pa_cons (pv 0) pa_nil)) pe_int (nomark _)) (pw_or1 (pt_not (pt_val (pe_callB (Kk.call_isi (K := K)) (by rfl) B.isinstance (by decide +kernel) (pa_cons (pe_ix (Kk.ix_tup (K := K)) (pv 0) pe_int (fun _ _ => rfl)) (pa_cons (pe_bltn (v := .ty "tuple") (u := .type "tuple") (by rfl) B.tuple (by decide +kernel) rfl) pa_nil))))))))) (pss_one (ps_ret pe_bl)) pss_nil)
      (pss_cons (ps_set (i := 3) nd rfl (Or.inl rfl) (pe_ix (Kk.ix_tup (K := K)) (pv 0) pe_int (fun _ _ => rfl)))
      (pss_cons (ps_if (pt_cmpR (Kk.op_neD (K := K) hr.units) (pe_lc (own := [("one", 4)]) rfl nd (Kk.pi_tup (K := K) (pv 3)) (blkOk_by (by kernel_rfl)) (fun _ _ _ _ _ => (pg_name (i := 4) nd rfl (by first | exact Or.inl rfl | exact Or.inr rfl))) (fun _ _ _ _ _ => (pts_one (PW.pt (pw_or (pt_not (pt_val (Dl.pe_c c_is_between hr (pa_cons (pv 4) (pa_cons pe_int (pa_cons (pe_op op_sub (pv 1) pe_int) pa_nil)))))) (pw_or1 (pt_cmpR op_eq (pv 4) (pv 2) (nomark _))))))) (fun _ _ _ _ _ => (pv 4))) (pe_lst pa_nil) (nomark _)) (pss_one (ps_ret pe_bl)) pss_nil)
      (pss_cons (ps_if (pt_cmpR (Kk.op_neD (K := K) hr.units) (pe_callTy (Kk.call_list_of (K := K)) (by rfl) B.list (by decide +kernel) (pa_cons (pv 3) pa_nil)) (pe_callB (Kk.cr_sortedSet (w := w) rfl) (by rfl) B.sorted (by decide +kernel) (pa_cons (pe_callTy (Kk.cr_setI (K := K) (w := w) rfl) (by rfl) B.set_ (by decide +kernel) (pa_cons (pv 3) pa_nil)) pa_nil)) (nomark _)) (pss_one (ps_ret pe_bl)) pss_nil)
      (pss_one (ps_ret (pe_cmpR (Kk.op_eqD (K := K) hr.units) (pe_lc (own := [("k", 5)]) rfl nd (pi_range1 (by rfl) B.range (pa_cons pe_int pa_nil)) (blkOk_by (by kernel_rfl)) (fun _ _ _ _ _ => (pg_name (i := 5) nd rfl (by first | exact Or.inl rfl | exact Or.inr rfl))) (fun _ _ _ _ _ => (pts_one (pt_not (pt_val (Dl.pe_c c_is_between hr (pa_cons (pe_ix (Kk.ix_tup (K := K)) (pv 0) (pe_op op_add pe_int (pv 5)) (fun _ _ => rfl)) (pa_cons (pe_ix (Kk.ix_tup (K := K)) (pe_ix (Kk.ix_tup (K := K)) (C8.pe_gc (by rfl) g_BOUNDS) (pv 5) (fun _ _ => rfl)) pe_int (fun _ _ => rfl)) (pa_cons (pe_ix (Kk.ix_tup (K := K)) (pe_ix (Kk.ix_tup (K := K)) (C8.pe_gc (by rfl) g_BOUNDS) (pv 5) (fun _ _ => rfl)) pe_int (fun _ _ => rfl)) pa_nil)))))))) (fun _ _ _ _ _ => (pv 5))) (pe_lst pa_nil) (nomark _)))))))), fun ds hn hp => ?_⟩
  obtain ⟨s, m, i, rfl, g, hm⟩ := hp
  show ExS K _ _ [.pu (svcD s), .pu (.int m), .pu (.int i), .non, .non, .non]
  fail "kr"
  have hs : s.wants.Pairwise (· < ·) := g.rise
  have hlen := g.few
  refine ev_fT (g := PyData.int) (fun _ => false) PyData.int ?_
  fail "kr"
  refine ⟨wip1 rfl junk_non, Nat.le_of_ble_eq_true rfl, by rw [iz_len]; omega, fun a ha => ?_, ?_⟩
  · unfold Turn1C
    simp only [List.set_cons_zero, List.set_cons_succ]
    obtain ⟨x, rfl, hx⟩ := iz_ex ha
    have hb := g.below x hx
    fail "kr"
    refine ev_call ?_
    fail "kr"
    refine ⟨rfl, ⟨_, _, _, rfl⟩, fun r hr => ?_⟩
    rw [hr _ _ _ rfl]
    fail "kr"
    rw [betw_yes (by omega) (by omega)]
    fail "kr"
    have : decide ((x : Int) = (i : Int)) = false := decide_eq_false fun e => hb.2 (by omega)
    rw [this]
    exact ⟨rfl, rfl, fun z => nomatch z⟩
  fail "kr"
  rw [filter_no]
  refine ⟨shaped_nilL, ?_⟩
  fail "kr"
  refine ⟨by rw [iz_len]; omega, fun ns' h1 h2 => ?_⟩
  have e : ns' = iz s.wants := rising_unique h1 (iz_rise hs) h2
  subst e
  fail "kr"
  refine ⟨shaped_ints _, shaped_ints _, ?_⟩
  fail "kr"
  rw [eqvL_ints, decide_eq_true rfl]
  fail "kr"
  refine ev_fR (fun _ => false) (fun k => .int (k : Int)) ?_
  fail "kr"
  refine ⟨wip1 rfl junk_non, Nat.le_of_ble_eq_true rfl, Nat.le_of_ble_eq_true rfl, fun a ha => ?_, ?_⟩
  · unfold Turn1C
    simp only [List.set_cons_zero, List.set_cons_succ]
    fail "kr"
    refine ev_call ?_
    fail "kr"
    have ht := g.takes
    have he := g.ends
    have hw := g.waits
    have hy := g.stays
    have hz := g.tries
    have ha5 : a < 5 := ha
    have h5 : a = 0 ∨ a = 1 ∨ a = 2 ∨ a = 3 ∨ a = 4 := by omega
    rcases h5 with rfl | rfl | rfl | rfl | rfl <;>
    · fail "kr"
      refine ⟨rfl, ⟨_, _, _, rfl⟩, fun r hr => ?_⟩
      have e : r = .d (.bool true) := (hr _ _ _ rfl).trans (congrArg (fun b => Rt.d (.bool b)) (by
        first
        | exact betw_yes ht.1 ht.2
        | exact betw_yes he.1 he.2
        | exact betw_yes hw.1 hw.2
        | exact betw_yes hy.1 hy.2
        | exact betw_yes hz.1 hz.2))
      rw [e]
      fail "kr"
      exact ⟨rfl, rfl, fun z => nomatch z⟩
  fail "kr"
  rw [filter_no]
  refine ⟨shaped_nilL, ?_⟩
  exact rt_d rfl
end
end Kr

namespace Kr
open PySem PySem.Spec PyProof.Rows L2 Dl
open Evl (Ex)
theorem nodup_lt : ∀ (n : Nat) (ks : List Int), ks.Nodup → (∀ k ∈ ks, 0 ≤ k ∧ k < n) → ks.length ≤ n
  | 0, [], _, _ => Nat.le_refl _
  | 0, k :: _, _, h => absurd (h k (List.mem_cons_self ..)) (by omega)
  | n + 1, ks, hd, h => by
    have := nodup_lt n (ks.erase (n : Int)) (hd.erase _) fun k hk => by
      obtain ⟨a, b⟩ := (hd.mem_erase_iff).mp hk
      have := h k b
      omega
    have := List.length_erase (a := (n : Int)) (l := ks)
    split at this <;> omega
theorem lookI_none {kvs : List (Int × PyData)} {k : Int} (h : lookI kvs k = none) : k ∉ kvs.map (·.1) := by
  intro hm
  obtain ⟨kv, h1, h2⟩ := List.mem_map.mp hm
  unfold lookI at h
  rw [Option.map_eq_none_iff, List.find?_eq_none] at h
  exact h kv h1 (by simp [h2])
theorem putI_new {kvs : List (Int × PyData)} {k : Int} {d : PyData} (h : k ∉ kvs.map (·.1)) : putI kvs k d = kvs ++ [(k, d)] := by
  unfold putI
  rw [if_neg]
  intro hh
  rw [List.any_eq_true] at hh
  obtain ⟨kv, h1, h2⟩ := hh
  exact h (List.mem_map.mpr ⟨kv, h1, of_decide_eq_true h2⟩)
structure Met (n : Nat) (kvs : List (Int × PyData)) : Prop where
  nd : (kvs.map (·.1)).Nodup
  lt : ∀ k ∈ kvs.map (·.1), 0 ≤ k ∧ k < (n : Int)
theorem Met.len {n : Nat} {kvs : List (Int × PyData)} (h : Met n kvs) : kvs.length ≤ n := by
  have := nodup_lt n _ h.nd h.lt
  rwa [List.length_map] at this
theorem Met.put {n k : Nat} {kvs : List (Int × PyData)} {d : PyData} (h : Met n kvs) (hk : lookI kvs k = none) (hl : k < n) : putI kvs k d = kvs ++ [((k : Int), d)] ∧ Met n (kvs ++ [((k : Int), d)]) := by
  have hn := lookI_none hk
  refine ⟨putI_new hn, ?_, fun j hj => ?_⟩
  · rw [List.map_append, List.nodup_append]
    refine ⟨h.nd, List.nodup_cons.mpr ⟨by simp, List.nodup_nil⟩, fun a ha b hb => ?_⟩
    rw [List.mem_singleton.mp hb]
    intro e
    exact hn (show (k : Int) ∈ _ from (show a = (k : Int) from e) ▸ ha)
  · rw [List.map_append] at hj
    rcases List.mem_append.mp hj with hj | hj
    · exact h.lt j hj
    · rw [List.mem_singleton.mp hj]
      show 0 ≤ (k : Int) ∧ (k : Int) < n
      omega
def rowD (r : List Nat) : PyData := .list ((iz r).map PyData.int)
def rowsD (rs : List (List Nat)) : List PyData := rs.map rowD
theorem okD_rows (rs : List (List Nat)) : okD 2 (.list (rowsD rs)) := okD_list fun x hx => by
  obtain ⟨r, _, e⟩ := List.mem_map.mp hx
  rw [← e]
  exact okD_ints _
theorem rowsD_len (rs : List (List Nat)) : (rowsD rs).length = rs.length := List.length_map _
theorem wants_at {p : Pl} {i x k : Nat} (hx : (wantsOf p i)[k]? = some x) : x ∈ wantsOf p i := List.mem_of_getElem? hx
theorem atI_plan {p : Pl} {i : Nat} (h : i < p.length) : ∃ s, p[i]? = some s ∧ atI (p.map svcD) (i : Int) = some (svcD s) := by
  refine ⟨p[i], List.getElem?_eq_getElem h, atI_nat' ?_⟩
  rw [List.getElem?_map, List.getElem?_eq_getElem h]
  rfl
theorem atI_last {r : List Nat} {x : Nat} : atI ((iz (r ++ [x])).map PyData.int) (-1) = some (.int x) := by
  rw [iz_app, List.map_append]
  have e : ((iz r).map PyData.int ++ (iz [x]).map PyData.int).length = r.length + 1 := by simp [iz]
  unfold atI ixN
  rw [e, if_neg (by omega), if_pos (by omega)]
  show (List.map PyData.int (iz r) ++ [PyData.int (x : Int)])[_]? = _
  rw [List.getElem?_append_right (by simp [iz]; omega)]
  have : (-1 + ((r.length + 1 : Nat) : Int)).toNat - (List.map PyData.int (iz r)).length = 0 := by simp [iz]; omega
  rw [this]
  rfl
theorem iz_at {ns : List Nat} {j : Nat} {y : PyData} (h : ((iz ns).map PyData.int)[j]? = some y) : ∃ z : Nat, y = .int (z : Int) ∧ z ∈ ns := by
  obtain ⟨i, hi, e⟩ := List.mem_map.mp (List.mem_of_getElem? h)
  obtain ⟨z, rfl, hz⟩ := iz_ex hi
  exact ⟨z, e.symm, hz⟩
/-- rows on the way: behind each of them stands one of lower rank -/
def Way (p : Pl) (rank : Nat → Nat) (b m k : Nat) (r : List Nat) : Prop := ∃ (r0 : List Nat) (x : Nat), r = r0 ++ [x] ∧ x < p.length ∧ rank x < m ∧ rank x ≤ rank b ∧ r0.length ≤ k
theorem Way.up {p : Pl} {rank : Nat → Nat} {b m k k2 : Nat} {r : List Nat} (h : Way p rank b m k r) (l : k ≤ k2) : Way p rank b m k2 r := by
  obtain ⟨r0, x, a, b, c, d, e⟩ := h
  exact ⟨r0, x, a, b, c, d, Nat.le_trans e l⟩
section
variable {P : Program} {w : World} {K : PySem.W.Frag} {mg : Str → Option Value} {base : Heap}
def pRing (ds : List PyData) : Prop := ∃ (p : Pl) (b : Nat), ds = [planD p, .int (b : Int)] ∧ Good p ∧ b < p.length
def tNone (_ : List PyData) (r : Rt) : Prop := r = .d .none
theorem ok_ring_from (D : Df K mg "ring_from" s_ring_from ["plan", "begin"]) (B : Bn mg) : Cal P w K mg base 1 "ring_from" (spP K 2 pRing tNone) := by
  have nd := sc_ring_from.nd
  refine calP D sc_ring_from rfl fun f cdv A outer st H E hr => ⟨_, (pss_cons (ps_set (i := 2) nd rfl (Or.inl rfl) (pe_lst (pa_cons (pe_lst (pa_cons (pv 1) pa_nil)) pa_nil)))
      (pss_cons (ps_set (i := 3) nd rfl (Or.inl rfl) pe_dnewK)
      (pss_cons (ps_while PassesOwn.never (pt_cmpR (Kk.op_neD (K := K) hr.units) (pv 2) (pe_lst pa_nil) (nomark _)) (pss_cons (ps_set (i := 4) nd rfl (Or.inl rfl) (pe_lst pa_nil))
      (pss_cons (ps_for PassesOwn.never rfl (Kk.pi_list (K := K) (pv 2)) (pg_name (i := 5) nd rfl (Or.inl rfl)) (pss_one (ps_for PassesOwn.never rfl (Kk.pi_tup (K := K) (pe_ix (Kk.ix_tup (K := K)) (pe_ix (Kk.ix_tup (K := K)) (pv 0) (pe_ix (Kk.ix_list (K := K)) (pv 5) (pe_un un_neg pe_int) (fun _ _ => rfl)) (fun _ _ => rfl)) pe_int (fun _ _ => rfl))) (pg_name (i := 6) nd rfl (Or.inl rfl)) (pss_cons (ps_if (pt_cmpR op_eq (pv 6) (pv 1) (nomark _)) (pss_one (ps_ret (pv 5))) pss_nil)
      (pss_one (ps_if (pt_cmp (pc_dnotin (Kk.hu hr) (pv 6) (pv 3))) (pss_cons (ps_dput (Kk.hu hr) (pv 3) (pv 6) pe_bl rfl)
      (pss_one (ps_expr (Kk.pe_bm (K := K) PySem.F.plainAttrs_list PySem.F.slot_list_append PySem.F.type_list_append mt_append (pv 4) (pa_cons (pe_op (Kk.op_catS (K := K)) (pv 5) (pe_lst (pa_cons (pv 6) pa_nil))) pa_nil))))) pss_nil))))))
      (pss_one (ps_set (i := 2) nd rfl (Or.inl rfl) (pv 4))))))
      (pss_one (ps_ret pe_non))))), fun ds hn hp => ?_⟩
  obtain ⟨p, b, rfl, hg, hb⟩ := hp
  obtain ⟨rank, hrank⟩ := hg.free
  have hlen := hg.sound.few
  show ExS K _ _ [.pu (planD p), .pu (.int b), .non, .non, .non, .non, .non]
  fail "kr"
  refine xs_while (fun m δ' => ∃ rs kvs x5 x6, δ' = [.pu (planD p), .pu (.int b), .ow (RL K (rowsD rs)), .ow (RDk K kvs), .non, x5, x6] ∧ (∀ r ∈ rs, Way p rank b m kvs.length r) ∧ Met p.length kvs ∧ rs.length ≤ kvs.length + 1) (rank b + 1) ⟨[[b]], [], .non, .non, rfl, ?_, ⟨List.nodup_nil, fun k hk => nomatch hk⟩, Nat.le_refl _⟩ ?_
  · intro r hr
    rw [List.mem_singleton.mp hr]
    exact ⟨[], b, rfl, hb, Nat.lt_succ_self _, Nat.le_refl _, Nat.zero_le _⟩
  · rintro m _ ⟨rs, kvs, x5, x6, rfl, hway, hmet, hrs⟩
    fail "kr"
    refine ⟨(okD_rows rs).shaped (by decide), ?_⟩
    cases rs with
    | nil => 
      fail "kr"
      exact rt_d rfl
    | cons ra rs =>
      have hm : 0 < m := by
        obtain ⟨_, _, _, _, h, _⟩ := hway ra (List.mem_cons_self ..)
        omega
      fail "kr"
      refine xs_frz (j := 2) rfl ?_
      generalize ra :: rs = rows at hway hrs
      have hk12 := hmet.len
      fail "kr"
      refine xs_forL (ed_of (ev_pu rfl ⟨_, frz_pu, _, rfl, fun _ δ' => ∃ fur kvs2 x5 x6, δ' = [.pu (planD p), .pu (.int b), .pu (.list (rowsD rows)), .ow (RDk K kvs2), .ow (RL K (rowsD fur)), x5, x6] ∧ kvs.length ≤ kvs2.length ∧ (∀ r ∈ fur, Way p rank b (m - 1) kvs2.length r) ∧ Met p.length kvs2 ∧ fur.length ≤ kvs2.length, ⟨[], kvs, x5, x6, rfl, Nat.le_refl _, fun _ z => (nomatch z), hmet, Nat.zero_le _⟩, fun i y δ' hy => ?_, fun δ' => ?_⟩))
      · rintro ⟨fur, kvs2, x5, x6, rfl, hkk, hfur, hmet2, hfl⟩
        rw [rowsD, List.getElem?_map] at hy
        cases hr2 : rows[i]? with
        | none => rw [hr2] at hy; cases hy
        | some r =>
        rw [hr2] at hy
        cases hy
        obtain ⟨r0, x, rfl, hx, hxm, hxb, hr0⟩ := hway r (List.mem_of_getElem? hr2)
        obtain ⟨s, hs, hat⟩ := atI_plan hx
        refine turn1_name (Nat.le_of_ble_eq_true rfl) ?_
        fail "kr"
        refine xs_forT ?_
        fail "kr"
        refine ⟨_, _, _, den_pu, rfl, atI_last, _, _, _, rfl, rfl, hat, ?_⟩
        fail "kr"
        refine ⟨fun _ δ' => ∃ fur kvs2 x6, δ' = [.pu (planD p), .pu (.int b), .pu (.list (rowsD rows)), .ow (RDk K kvs2), .ow (RL K (rowsD fur)), .pu (rowD (r0 ++ [x])), x6] ∧ kvs.length ≤ kvs2.length ∧ (∀ r ∈ fur, Way p rank b (m - 1) kvs2.length r) ∧ Met p.length kvs2 ∧ fur.length ≤ kvs2.length, ⟨fur, kvs2, x6, rfl, hkk, hfur, hmet2, hfl⟩, fun j y δ' hy => ?_, fun δ' => ?_⟩
        · rintro ⟨fur, kvs2, x6, rfl, hkk, hfur, hmet2, hfl⟩
          obtain ⟨z, rfl, hz⟩ := iz_at hy
          have hzw : z ∈ wantsOf p x := by rw [wantsOf_some hs]; exact hz
          have hzl := hg.sound.wants_lt hzw
          have hzr := hrank x z hzw
          have h12 := hmet2.len
          refine turn1_name (Nat.le_of_ble_eq_true rfl) ?_
          fail "kr"
          rw [show decide ((z : Int) = (b : Int)) = false from decide_eq_false fun e => by
            have : z = b := by omega
            rw [this] at hzr
            omega]
          fail "kr"
          refine ifB (fun hn => ?_) (fun hn => ?_)
          · have hln : lookI kvs2 (z : Int) = none := by
              cases e : lookI kvs2 (z : Int) with
              | none => rfl
              | some _ => rw [e] at hn; cases hn
            obtain ⟨e1, e2⟩ := hmet2.put (d := .bool true) hln hzl
            fail "kr"
            refine ⟨by omega, ?_⟩
            rw [e1]
            fail "kr"
            refine ⟨_, _, den_pu, den_ow, ?_⟩
            have hl := hr0
            refine ⟨?_, ?_⟩
            · simp [iz]
              omega
            fail "kr"
            refine ⟨by rw [rowsD_len]; omega, ?_⟩
            fail "kr"
            refine ⟨fur ++ [r0 ++ [x] ++ [z]], _, .pu (.int (z : Int)), ?_, ?_, ?_, e2, ?_⟩
            · simp [rowsD, rowD, iz]
            · rw [List.length_append]
              omega
            · intro r hr
              rcases List.mem_append.mp hr with hr | hr
              · exact (hfur r hr).up (by rw [List.length_append]; omega)
              · rw [List.mem_singleton.mp hr]
                refine ⟨r0 ++ [x], z, rfl, hzl, by omega, by omega, ?_⟩
                rw [List.length_append, List.length_append]
                simp
                omega
            · rw [List.length_append, List.length_append]
              simp
              omega
          · fail "kr"
            exact ⟨fur, kvs2, _, rfl, hkk, hfur, hmet2, hfl⟩
        · rintro ⟨fur, kvs2, x6, rfl, hkk, hfur, hmet2, hfl⟩
          exact ⟨fur, kvs2, _, x6, rfl, hkk, hfur, hmet2, hfl⟩
      · rintro ⟨fur, kvs2, x5, x6, rfl, hkk, hfur, hmet2, hfl⟩
        fail "kr"
        exact ⟨m - 1, by omega, fur, kvs2, x5, x6, rfl, hfur, hmet2, by omega⟩
end
end Kr

namespace Kr
open PySem PySem.Spec PyProof.Rows L2 Dl
open Evl (Ex)
theorem tgl2 {n a b : Nat} {x y : PyData} (h : a < n) (h2 : b < n) : ∀ p ∈ [(a, x), (b, y)], p.1 < n := fun p hp => by
  rcases List.mem_cons.mp hp with rfl | hp
  · exact h
  · rw [List.mem_singleton.mp hp]
    exact h2
theorem planD_len (p : Pl) : (p.map svcD).length = p.length := List.length_map _
section
variable {P : Program} {w : World} {K : PySem.W.Frag} {mg : Str → Option Value} {base : Heap}
def pGood (ds : List PyData) : Prop := ∃ (p : Pl), ds = [planD p] ∧ Good p
def pRing2 (ds : List PyData) : Prop := ∃ (p : Pl) (b : Nat), ds = [planD p, .int (b : Int)] ∧ Good p ∧ b < p.length
theorem ok_first_ring (D : Df K mg "first_ring" s_first_ring ["plan"]) (B : Bn mg) (c_ring_from : Cal P w K mg base 1 "ring_from" (spP K 2 pRing tNone)) : Cal P w K mg base 2 "first_ring" (spP K 1 pGood tNone) := by
  have nd := sc_first_ring.nd
  refine calP D sc_first_ring rfl fun f cdv A outer st H E hr => ⟨_, (pss_cons (ps_set (i := 1) nd rfl (Or.inl rfl) pe_non)
      (pss_cons (ps_for PassesOwn.never rfl (pi_range1 (by rfl) B.range (pa_cons (pe_callB (Kk.call_len_seq (K := K)) (by rfl) B.len (by decide +kernel) (pa_cons (pv 0) pa_nil)) pa_nil)) (pg_name (i := 2) nd rfl (Or.inl rfl)) (pss_cons (ps_set (i := 3) nd rfl (Or.inl rfl) (Dl.pe_c c_ring_from hr (pa_cons (pv 0) (pa_cons (pv 2) pa_nil))))
      (pss_one (ps_if (PW.pt (pw_and (pt_cmp (pc_notN (pv 3))) (pw_and1 (PW.pt (pw_or (pt_cmp (pc_isN (pv 1))) (pw_or1 (pt_cmpR op_lt (pe_tup (pa_cons (pe_callB (Kk.call_len_seq (K := K)) (by rfl) B.len (by decide +kernel) (pa_cons (pv 3) pa_nil)) (pa_cons (pv 3) pa_nil))) (pe_tup (pa_cons (pe_callB (Kk.call_len_seq (K := K)) (by rfl) B.len (by decide +kernel) (pa_cons (pv 1) pa_nil)) (pa_cons (pv 1) pa_nil))) (nomark _)))))))) (pss_one (ps_set (i := 1) nd rfl (Or.inl rfl) (pv 3))) pss_nil))))
      (pss_one (ps_ret (pv 1))))), fun ds hn hp => ?_⟩
  obtain ⟨p, rfl, hg⟩ := hp
  have hlen := hg.sound.few
  show ExS K _ _ [.pu (planD p), .non, .non, .non]
  fail "kr"
  refine xs_forR1 ?_
  fail "kr"
  rw [planD_len]
  refine ⟨by omega, by omega, fun _ δ' => ∃ x2 x3, δ' = [.pu (planD p), .pu .none, x2, x3], ⟨_, _, rfl⟩, fun i δ' hi => ?_, fun δ' => ?_⟩
  · rintro ⟨x2, x3, rfl⟩
    refine turn1_name (Nat.le_of_ble_eq_true rfl) ?_
    fail "kr"
    refine ev_call ?_
    fail "kr"
    refine ⟨rfl, ⟨p, i, rfl, hg, by omega⟩, fun r hr => ?_⟩
    cases (show r = .d .none from hr)
    fail "kr"
    exact ⟨_, _, rfl⟩
  · rintro ⟨x2, x3, rfl⟩
    fail "kr"
    exact rt_d rfl
theorem ok_need_services (D : Df K mg "need_services" s_need_services ["plan"]) (B : Bn mg) (hB : Cst K mg "MOST_SERVICES" (.int 12)) (c_is_service : Cal P w K mg base 2 "is_service" (spP K 3 pSvc tTrue)) : Cal P w K mg base 3 "need_services" (spP K 1 pGood tNone) := by
  have nd := sc_need_services.nd
  obtain ⟨vM, uM, hmM, rM, dM⟩ := hB.ex
  have g_MOST_SERVICES : ∃ u, mg "MOST_SERVICES" = some u ∧ RelV vM u := ⟨uM, hmM, rM⟩
  refine calP D sc_need_services rfl fun f cdv A outer st H E hr => ⟨_, (pss_cons (ps_if (PW.pt (pw_or (pt_not (pt_val (pe_callB (Kk.call_isi (K := K)) (by rfl) B.isinstance (by decide +kernel) (pa_cons (pv 0) (pa_cons (pe_bltn (v := .ty "tuple") (u := .type "tuple") (by rfl) B.tuple (by decide +kernel) rfl) pa_nil))))) (pw_or1 (pt_not (pt_chain op_le op_le pe_int (pe_callB (Kk.call_len_seq (K := K)) (by rfl) B.len (by decide +kernel) (pa_cons (pv 0) pa_nil)) (C8.pe_gc (by rfl) g_MOST_SERVICES)))))) (pss_one ps_never) pss_nil)
      (pss_one (ps_for PassesOwn.never rfl (Kk.pi_enumT (K := K) (by rfl) B.enumerate (pa_cons (pv 0) pa_nil)) (Kk.pg_tup (K := K) (n := 2) (by rfl) (pgs_cons (pg_name (i := 1) nd rfl (Or.inl rfl)) (pgs_cons (pg_name (i := 2) nd rfl (Or.inl rfl)) pgs_nil))) (pss_one (ps_if (pt_not (pt_val (Dl.pe_c c_is_service hr (pa_cons (pv 2) (pa_cons (pe_callB (Kk.call_len_seq (K := K)) (by rfl) B.len (by decide +kernel) (pa_cons (pv 0) pa_nil)) (pa_cons (pv 1) pa_nil)))))) (pss_one ps_never) pss_nil))))), fun ds hn hp => ?_⟩
  obtain ⟨p, rfl, hg⟩ := hp
  have hlen := hg.sound.few
  show ExS K _ _ [.pu (planD p), .non, .non]
  fail "kr"
  have h1 := hg.sound.one
  rw [planD_len, decide_eq_true (show (1 : Int) ≤ (p.length : Int) by omega)]
  fail "kr"
  rw [decide_eq_true (show (p.length : Int) ≤ 12 by omega)]
  fail "kr"
  refine xs_forET ?_
  fail "kr"
  refine ⟨fun _ δ' => ∃ x1 x2, δ' = [.pu (planD p), x1, x2], ⟨_, _, rfl⟩, fun i y δ' hy => ?_, fun δ' => ?_⟩
  · rintro ⟨x1, x2, rfl⟩
    rw [List.getElem?_map] at hy
    cases hs : p[i]? with
    | none => rw [hs] at hy; cases hy
    | some s =>
    rw [hs] at hy
    cases hy
    refine turn1 tg_tup2 ?_ ?_
    · exact tgl2 (Nat.le_of_ble_eq_true rfl) (Nat.le_of_ble_eq_true rfl)
    show ExS K _ _ [.pu (planD p), .pu (.int i), .pu (svcD s)]
    fail "kr"
    refine ev_call ?_
    fail "kr"
    rw [planD_len]
    refine ⟨rfl, ⟨s, p.length, i, rfl, hg.sound.svc i s hs, hlen⟩, fun r hr => ?_⟩
    cases (show r = .d (.bool true) from hr)
    fail "kr"
    exact ⟨_, _, rfl⟩
  · rintro ⟨x1, x2, rfl⟩
    fail "kr"
    rfl
theorem ok_need_plan (D : Df K mg "need_plan" s_need_plan ["plan"]) (B : Bn mg) (c_need_services : Cal P w K mg base 3 "need_services" (spP K 1 pGood tNone)) (c_first_ring : Cal P w K mg base 2 "first_ring" (spP K 1 pGood tNone)) : Cal P w K mg base 4 "need_plan" (spP K 1 pGood tNone) := by
  have nd := sc_need_plan.nd
  refine calP D sc_need_plan rfl fun f cdv A outer st H E hr => ⟨_, (pss_cons (ps_expr (Dl.pe_c c_need_services hr (pa_cons (pv 0) pa_nil)))
      (pss_cons (ps_set (i := 1) nd rfl (Or.inl rfl) (Dl.pe_c c_first_ring hr (pa_cons (pv 0) pa_nil)))
      (pss_one (ps_if (pt_cmp (pc_notN (pv 1))) (pss_one ps_never) pss_nil)))), fun ds hn hp => ?_⟩
  obtain ⟨p, rfl, hg⟩ := hp
  show ExS K _ _ [.pu (planD p), .non]
  fail "kr"
  refine ev_call ?_
  fail "kr"
  refine ⟨rfl, ⟨p, rfl, hg⟩, fun r hr => ?_⟩
  cases (show r = .d .none from hr)
  fail "kr"
  refine ev_call ?_
  fail "kr"
  refine ⟨rfl, ⟨p, rfl, hg⟩, fun r hr => ?_⟩
  cases (show r = .d .none from hr)
  fail "kr"
  rfl
end
end Kr

namespace Kr
open PySem PySem.Spec PyProof.Rows L2 Dl
open Evl (Ex)
section
variable {P : Program} {w : World} {K : PySem.W.Frag} {mg : Str → Option Value} {base : Heap}
/-! ### the laws' own: draws, likeness -/
def pDice (ds : List PyData) : Prop := ∃ (ns : List Int) (k : Int), ds = [.list (ns.map PyData.int), .int k] ∧ ns.length ≤ 900 ∧ 0 ≤ k
def tDice (_ : List PyData) (r : Rt) : Prop := ∃ xs : List Int, r = .l (xs.map PyData.int) ∧ DiceOk xs
theorem ok__law_dice (D : Df K mg "_law_dice" s__law_dice ["_law_script", "_law_k"]) (B : Bn mg) : Cal P w K mg base 1 "_law_dice" (spP K 2 pDice tDice) := by
  have nd := sc__law_dice.nd
  refine calP D sc__law_dice rfl fun f cdv A outer st H E hr => ⟨_, (pss_cons (ps_set (i := 2) nd rfl (Or.inl rfl) (pv 1))
      (pss_cons (ps_for PassesOwn.never rfl (Kk.pi_list (K := K) (pv 0)) (pg_name (i := 3) nd rfl (Or.inl rfl)) (pss_one (ps_set (i := 2) nd rfl (Or.inl rfl) (pe_op op_mod (pe_op op_add (pe_op op_mul (pv 2) pe_int) (pe_callB call_abs (by rfl) B.abs (by decide +kernel) (pa_cons (pv 3) pa_nil))) pe_int))))
      (pss_one (ps_ret (pe_op (Kk.op_catS (K := K)) (pe_lst (pa_cons (pv 2) (pa_cons pe_int pa_nil))) (pe_lc (own := [("_law_cell", 3)]) rfl nd (Kk.pi_list (K := K) (pv 0)) (blkOk_by (by kernel_rfl)) (fun _ _ _ _ _ => (pg_name (i := 3) nd rfl (by first | exact Or.inl rfl | exact Or.inr rfl))) (fun _ _ _ _ _ => (pts_one (pt_cmpR op_ge (pv 3) (pe_op op_pow pe_int pe_int) (nomark _)))) (fun _ _ _ _ _ => (pv 3)))))))), fun ds hn hp => ?_⟩
  obtain ⟨ns, k, rfl, hl, hk⟩ := hp
  show ExS K _ _ [.pu (.list (ns.map PyData.int)), .pu (.int k), .non, .non]
  fail "kr"
  refine xs_forL (ed_of (ev_pu rfl ⟨_, frz_pu, _, rfl, fun _ δ' => ∃ (g : Int) (x3 : Slot), δ' = [.pu (.list (ns.map PyData.int)), .pu (.int k), .pu (.int g), x3] ∧ Junk x3 ∧ 0 ≤ g, ⟨k, .non, rfl, junk_non, hk⟩, fun i y δ' hy => ?_, fun δ' => ?_⟩))
  · rintro ⟨g, x3, rfl, hj, hg⟩
    obtain ⟨z, hz, rfl⟩ := List.mem_map.mp (List.mem_of_getElem? hy)
    refine turn1_name (Nat.le_of_ble_eq_true rfl) ?_
    fail "kr"
    refine ⟨.inr (by omega), ?_⟩
    fail "kr"
    refine ⟨by decide, ?_⟩
    fail "kr"
    exact ⟨_, _, rfl, junk_pu, Int.emod_nonneg _ (by decide)⟩
  · rintro ⟨g, x3, rfl, hj, hg⟩
    fail "kr"
    refine ev_fL (g := PyData.int) (fun z => decide (1000000000000000000 ≤ z)) PyData.int ?_
    fail "kr"
    refine ⟨wip1 rfl hj, Nat.le_of_ble_eq_true rfl, by omega, fun a ha => ?_, ?_⟩
    · unfold Turn1C
      simp only [List.set_cons_zero, List.set_cons_succ]
      fail "kr"
      refine ⟨⟨by decide, by decide, by decide⟩, ?_⟩
      fail "kr"
      refine ⟨rfl, rfl, fun _ => ?_⟩
      fail "kr"
      exact ⟨rfl, rfl⟩
    · fail "kr"
      have hf := List.length_filter_le (fun z : Int => decide (1000000000000000000 ≤ z)) ns
      refine ⟨by rw [List.length_map]; show 2 + _ ≤ _; omega, ?_⟩
      refine rt_l ⟨g :: 0 :: ns.filter fun z => decide (1000000000000000000 ≤ z), rfl, ?_, ?_, fun x hx => ?_⟩
      · show 2 ≤ _ + 1 + 1
        omega
      · show _ + 1 + 1 ≤ 1000
        omega
      · rcases List.mem_cons.mp hx with rfl | hx
        · exact hg
        rcases List.mem_cons.mp hx with rfl | hx
        · exact Int.le_refl _
        have := of_decide_eq_true (List.mem_filter.mp hx).2
        omega
theorem ok__law_off (D : Df K mg "_law_off" s__law_off ["_law_d", "_law_most"]) (B : Bn mg) : Cal P w K mg base 1 "_law_off" (spDi K 1 pOff tOff) := by
  have nd := sc__law_off.nd
  refine calDi D sc__law_off rfl fun f cdv A outer st H E hr => ⟨_, (pss_cons (ps_if (PW.pt (pw_and (pt_cmpR op_eq (pe_ix (Kk.ix_list (K := K)) (pv 0) pe_int (fun _ _ => rfl)) pe_int (nomark _)) (pw_and1 (pt_cmpR op_gt (pe_callB (Kk.call_len_seq (K := K)) (by rfl) B.len (by decide +kernel) (pa_cons (pv 0) pa_nil)) pe_int (nomark _))))) (pss_one (ps_asg (Kk.pe_bm (K := K) PySem.F.plainAttrs_list PySem.F.slot_list_pop PySem.F.type_list_pop mt_popAt (pv 0) (pa_cons pe_int pa_nil)) (pg_sub (pv 0) pe_int set_list))) pss_nil)
      (pss_cons (ps_if (pt_cmpR op_gt (pe_ix (Kk.ix_list (K := K)) (pv 0) pe_int (fun _ _ => rfl)) pe_int (nomark _)) (pss_cons (ps_set (i := 2) nd rfl (Or.inl rfl) (pe_op op_mod (pe_ix (Kk.ix_list (K := K)) (pv 0) pe_int (fun _ _ => rfl)) (pv 1)))
      (pss_cons (ps_asg (pe_op op_fdiv (pe_ix (Kk.ix_list (K := K)) (pv 0) pe_int (fun _ _ => rfl)) (pv 1)) (pg_sub (pv 0) pe_int set_list))
      (pss_one (ps_ret (pv 2))))) pss_nil)
      (pss_cons (ps_asg (pe_op op_mod (pe_op op_add (pe_op op_mul (pe_ix (Kk.ix_list (K := K)) (pv 0) pe_int (fun _ _ => rfl)) pe_int) pe_int) pe_int) (pg_sub (pv 0) pe_int set_list))
      (pss_one (ps_ret (pe_op op_mod (pe_op op_fdiv (pe_ix (Kk.ix_list (K := K)) (pv 0) pe_int (fun _ _ => rfl)) pe_int) (pv 1))))))), fun d ds hn hp => ?_⟩
  obtain ⟨k, rfl, hk, hk2⟩ := hp
  show ExS K _ _ [.ow (RDi d), .pu (.int k), .non]
  refine xs_dopen (j := 0) rfl fun xs ok => ?_
  obtain ⟨h2, h1000, hpos⟩ := ok
  match xs, h2, h1000, hpos with
  | x0 :: x1 :: r, h2, h1000, hpos =>
  have p0 := hpos x0 (List.mem_cons_self ..)
  have p1 := hpos x1 (List.mem_cons_of_mem _ (List.mem_cons_self ..))
  have pr : ∀ x ∈ r, 0 ≤ x := fun x hx => hpos x (List.mem_cons_of_mem _ (List.mem_cons_of_mem _ hx))
  have hr1 : r.length ≤ 998 := by have : r.length + 1 + 1 ≤ 1000 := h1000; omega
  refine xs_seq (xs_mid (fun δ' => ∃ x1 r, δ' = [.ow (RDl d (x0 :: x1 :: r)), .pu (.int k), .non] ∧ 0 ≤ x1 ∧ (∀ x ∈ r, 0 ≤ x) ∧ r.length ≤ 998) ?_ ?_)
  · fail "kr"
    refine ifB (fun h1 => ?_) (fun h1 => ?_)
    · fail "kr"
      refine ifB (fun h2 => ?_) (fun h2 => ?_)
      · match r, of_decide_eq_true h2, hr1, pr with
        | [], h2, _, _ => exact absurd (show (2 : Int) < 2 from h2) (by decide)
        | r0 :: r, _, hr1, pr =>
        have hrl : r.length + 1 ≤ 998 := hr1
        fail "kr"
        refine ev_Dpop (i := 2) (xs := x0 :: x1 :: r0 :: r) rfl rfl (by show r.length + 1 + 1 + 1 ≤ _; omega) ?_
        refine ⟨_, _, _, _, rfl, rfl, ixN_nat (k := 1) (by show 1 < _ + 1 + 1; omega), ?_⟩
        exact ⟨r0, r, rfl, pr r0 (List.mem_cons_self ..), fun x hx => pr x (List.mem_cons_of_mem _ hx), by omega⟩
      · fail "kr"
        exact ⟨x1, r, rfl, p1, pr, hr1⟩
    · fail "kr"
      exact ⟨x1, r, rfl, p1, pr, hr1⟩
  · clear pr hr1 p1
    rintro _ ⟨x1, r, rfl, p1, pr, hr1⟩
    have okr : ∀ a b : Int, 0 ≤ a → 0 ≤ b → DiceOk (a :: b :: r) := fun a b ha hb => ⟨Nat.le_add_left _ _, by show r.length + 1 + 1 ≤ 1000; omega, fun x hx => by
      rcases List.mem_cons.mp hx with rfl | hx
      · exact ha
      rcases List.mem_cons.mp hx with rfl | hx
      · exact hb
      exact pr x hx⟩
    fail "krE"
    refine ifB (fun h1 => ?_) (fun h1 => ?_)
    · fail "krE"
      refine ⟨hk, ?_⟩
      fail "krE"
      refine ⟨⟨hk, hk2⟩, ?_⟩
      refine ⟨_, _, _, _, rfl, rfl, ixN_nat (k := 1) (by show 1 < _ + 1 + 1; omega), ?_⟩
      fail "krE"
      refine xs_dclose (j := 0) rfl (okr _ _ p0 (Int.ediv_nonneg p1 (Int.le_of_lt hk))) ?_
      fail "kr"
      exact ⟨rt_d fun k2 hk2 => by
        cases hk2
        have h0 := Int.emod_nonneg x1 (b := k) (by omega)
        have h3 := Int.emod_lt_of_pos x1 hk
        exact ⟨(x1 % k).toNat, by rw [Int.toNat_of_nonneg h0], by omega⟩, rfl, fun z => nomatch z⟩
    · fail "krE"
      refine ⟨.inr (by decide), ?_⟩
      fail "krE"
      refine ⟨by decide, ?_⟩
      refine ⟨_, _, _, _, rfl, rfl, ixN_nat (k := 0) (by show 0 < _ + 1 + 1; omega), ?_⟩
      fail "krE"
      have hq : 0 ≤ (x0 * 48271 + 11) % 2147483647 := Int.emod_nonneg _ (by decide)
      generalize (x0 * 48271 + 11) % 2147483647 = q at hq
      refine xs_ret ?_
      fail "krE"
      refine ⟨⟨by decide, by decide⟩, ?_⟩
      refine ev_dclose (j := 0) rfl (okr q x1 hq p1) ?_
      fail "kr"
      refine ⟨hk, ?_⟩
      exact ⟨rt_d fun k2 hk2 => by
        cases hk2
        have h0 := Int.emod_nonneg (q / 64) (b := k) (by omega)
        have h3 := Int.emod_lt_of_pos (q / 64) hk
        exact ⟨(q / 64 % k).toNat, by rw [Int.toNat_of_nonneg h0], by omega⟩, rfl, fun z => nomatch z⟩
end
end Kr

namespace Kr
open PySem PySem.Spec PyProof.Rows L2 Dl
open Evl (Ex)
/-- data of depth n, its rows short -/
def szD : Nat → PyData → Prop
  | 0, d => flatD d = true
  | n + 1, d => flatD d = true ∨ ∃ ds, (d = .list ds ∨ d = .tuple ds) ∧ ds.length ≤ 100000 ∧ ∀ x ∈ ds, szD n x
theorem szD_flat {n : Nat} {d : PyData} (h : flatD d = true) : szD n d := by
  cases n with
  | zero => exact h
  | succ n => exact .inl h
theorem szD_list {n : Nat} {ds : List PyData} (hl : ds.length ≤ 100000) (h : ∀ x ∈ ds, szD n x) : szD (n + 1) (.list ds) := .inr ⟨ds, .inl rfl, hl, h⟩
theorem szD_tuple {n : Nat} {ds : List PyData} (hl : ds.length ≤ 100000) (h : ∀ x ∈ ds, szD n x) : szD (n + 1) (.tuple ds) := .inr ⟨ds, .inr rfl, hl, h⟩
theorem filter_yes {α : Type} (xs : List α) : xs.filter (fun _ => true) = xs := by induction xs with | nil => rfl | cons x r ih => rw [List.filter_cons, ih]; rfl
theorem map_const {α β : Type} (xs : List α) (b : β) : xs.map (fun _ => b) = List.replicate xs.length b := by induction xs with | nil => rfl | cons x r ih => rw [List.map_cons, ih]; rfl
section
variable {P : Program} {w : World} {K : PySem.W.Frag} {mg : Str → Option Value} {base : Heap}
theorem cal_never {x : Str} {st : Stmt} {ps : List Str} {n : Nat} {pre : List PyData → Prop} {T : List PyData → Rt → Prop} (D : Df K mg x st ps) (hp : ∀ ds, ¬ pre ds) : Cal P w K mg base 0 x (spP K n pre T) := by
  obtain ⟨f, fd, F, hm, hb⟩ := D.ex
  exact ⟨f, fd, ps, ⟨fun vs H Q E ⟨_, ds, _, _, _, h, _⟩ => (hp ds h).elim, fun A outer s H args us vs Q E _ _ _ _ ⟨_, ds, _, _, _, h, _⟩ => (hp ds h).elim⟩, hm, F.kp, hb⟩
def tTrue2 (_ : List PyData) (r : Rt) : Prop := r = .d (.bool true)
def pAlike : Nat → List PyData → Prop
  | 0, _ => False
  | n + 1, ds => ∃ x, ds = [x, x] ∧ szD n x
theorem ok__law_alike (D : Df K mg "_law_alike" s__law_alike ["_law_found", "_law_due"]) (B : Bn mg) : ∀ k : Nat, Cal P w K mg base k "_law_alike" (spP K 2 (pAlike k) tTrue2)
  | 0 => cal_never D fun _ h => h
  | k + 1 => by
    have c__law_alike := ok__law_alike D B k
    have nd := sc__law_alike.nd
    refine calP D sc__law_alike rfl fun f cdv A outer st H E hr => ⟨_, (pss_cons (ps_if (pt_cmp (pc_isN (pv 1))) (pss_one (ps_ret (pe_cmp (pc_isN (pv 0)) rfl))) pss_nil)
      (pss_cons (ps_if (pt_val (pe_callB (Kk.call_isi (K := K)) (by rfl) B.isinstance (by decide +kernel) (pa_cons (pv 1) (pa_cons (pe_bltn (v := .ty "bool") (u := .type "bool") (by rfl) B.bool (by decide +kernel) rfl) pa_nil)))) (pss_one (ps_ret (pe_and (pe_callB (Kk.call_isi (K := K)) (by rfl) B.isinstance (by decide +kernel) (pa_cons (pv 0) (pa_cons (pe_bltn (v := .ty "bool") (u := .type "bool") (by rfl) B.bool (by decide +kernel) rfl) pa_nil))) (pe_one (pe_cmpR op_eq (pv 0) (pv 1) (nomark _)))))) pss_nil)
      (pss_cons (ps_if (pt_val (pe_callB (Kk.call_isi (K := K)) (by rfl) B.isinstance (by decide +kernel) (pa_cons (pv 1) (pa_cons (pe_bltn (v := .ty "int") (u := .type "int") (by rfl) B.int (by decide +kernel) rfl) pa_nil)))) (pss_one (ps_ret (pe_and (pe_callB (Kk.call_isi (K := K)) (by rfl) B.isinstance (by decide +kernel) (pa_cons (pv 0) (pa_cons (pe_bltn (v := .ty "int") (u := .type "int") (by rfl) B.int (by decide +kernel) rfl) pa_nil))) (pe_and (pe_not (pe_callB (Kk.call_isi (K := K)) (by rfl) B.isinstance (by decide +kernel) (pa_cons (pv 0) (pa_cons (pe_bltn (v := .ty "bool") (u := .type "bool") (by rfl) B.bool (by decide +kernel) rfl) pa_nil)))) (pe_one (pe_cmpR op_eq (pv 0) (pv 1) (nomark _))))))) pss_nil)
      (pss_cons (ps_if (pt_val (pe_callB (Kk.call_isi (K := K)) (by rfl) B.isinstance (by decide +kernel) (pa_cons (pv 1) (pa_cons (pe_bltn (v := .ty "str") (u := .type "str") (by rfl) B.str (by decide +kernel) rfl) pa_nil)))) (pss_one (ps_ret (pe_and (pe_callB (Kk.call_isi (K := K)) (by rfl) B.isinstance (by decide +kernel) (pa_cons (pv 0) (pa_cons (pe_bltn (v := .ty "str") (u := .type "str") (by rfl) B.str (by decide +kernel) rfl) pa_nil))) (pe_one (pe_cmpR op_eq (pv 0) (pv 1) (nomark _)))))) pss_nil)
      (pss_cons (ps_if (PW.pt (pw_or (pt_cmpR op_ne (pe_callB (Kk.call_isi (K := K)) (by rfl) B.isinstance (by decide +kernel) (pa_cons (pv 1) (pa_cons (pe_bltn (v := .ty "tuple") (u := .type "tuple") (by rfl) B.tuple (by decide +kernel) rfl) pa_nil))) (pe_callB (Kk.call_isi (K := K)) (by rfl) B.isinstance (by decide +kernel) (pa_cons (pv 0) (pa_cons (pe_bltn (v := .ty "tuple") (u := .type "tuple") (by rfl) B.tuple (by decide +kernel) rfl) pa_nil))) (nomark _)) (pw_or1 (pt_cmpR op_ne (pe_callB (Kk.call_isi (K := K)) (by rfl) B.isinstance (by decide +kernel) (pa_cons (pv 1) (pa_cons (pe_bltn (v := .ty "list") (u := .type "list") (by rfl) B.list (by decide +kernel) rfl) pa_nil))) (pe_callB (Kk.call_isi (K := K)) (by rfl) B.isinstance (by decide +kernel) (pa_cons (pv 0) (pa_cons (pe_bltn (v := .ty "list") (u := .type "list") (by rfl) B.list (by decide +kernel) rfl) pa_nil))) (nomark _))))) (pss_one (ps_ret pe_bl)) pss_nil)
      (pss_cons (ps_if (pt_cmpR op_ne (pe_callB (Kk.call_len_seq (K := K)) (by rfl) B.len (by decide +kernel) (pa_cons (pv 0) pa_nil)) (pe_callB (Kk.call_len_seq (K := K)) (by rfl) B.len (by decide +kernel) (pa_cons (pv 1) pa_nil)) (nomark _)) (pss_one (ps_ret pe_bl)) pss_nil)
      (pss_one (ps_ret (pe_callB (Kk.cr_all (K := K) rfl) (by rfl) B.all (by decide +kernel) (pa_cons (pe_lc (own := [("_law_k", 2)]) rfl nd (pi_range1 (by rfl) B.range (pa_cons (pe_callB (Kk.call_len_seq (K := K)) (by rfl) B.len (by decide +kernel) (pa_cons (pv 1) pa_nil)) pa_nil)) (blkOk_by (by kernel_rfl)) (fun _ _ _ _ _ => (pg_name (i := 2) nd rfl (by first | exact Or.inl rfl | exact Or.inr rfl))) (fun _ _ _ _ _ => pts_nil) (fun _ _ _ _ _ => (Dl.pe_c c__law_alike hr (pa_cons (pe_ix (Kk.ix_both (K := K)) (pv 0) (pv 2) (fun _ _ => rfl)) (pa_cons (pe_ix (Kk.ix_both (K := K)) (pv 1) (pv 2) (fun _ _ => rfl)) pa_nil)) (Nat.le_refl _)))) pa_nil)))))))))), fun ds hn hp => ?_⟩
    obtain ⟨x, rfl, hx⟩ := hp
    show ExS K _ _ [.pu x, .pu x, .non]
    have flat : flatD x = true ∨ ∃ k2 ds, k = k2 + 1 ∧ (x = .list ds ∨ x = .tuple ds) ∧ ds.length ≤ 100000 ∧ ∀ x ∈ ds, szD k2 x := by
      cases k with
      | zero => exact .inl hx
      | succ k2 =>
        rcases hx with h | ⟨ds, h1, h2, h3⟩
        · exact .inl h
        · exact .inr ⟨k2, ds, rfl, h1, h2, h3⟩
    rcases flat with h | ⟨k2, ds, rfl, h1, h2, h3⟩
    · cases x with
      | none => fail "kr"; exact rt_d rfl
      | bool b =>
        cases b <;>
        · fail "kr"
          exact rt_d rfl
      | int i =>
        fail "kr"
        exact rt_d (by rw [decide_eq_true rfl]; rfl)
      | str s =>
        fail "kr"
        exact rt_d (by rw [decide_eq_true rfl]; rfl)
      | list _ => cases h
      | tuple _ => cases h
      | dict _ => cases h
    · rcases h1 with rfl | rfl
      · fail "kr"
        rw [decide_eq_true rfl]
        fail "kr"
        refine ev_fR (fun _ => true) (fun _ => .bool true) ?_
        fail "kr"
        refine ⟨wip1 rfl junk_non, Nat.le_of_ble_eq_true rfl, h2, fun a ha => ?_, ?_⟩
        · unfold Turn1C
          simp only [List.set_cons_zero, List.set_cons_succ]
          have hat : atI ds (a : Int) = some ds[a] := atI_nat' (List.getElem?_eq_getElem ha)
          fail "kr"
          refine ⟨rfl, rfl, fun _ => ?_⟩
          refine ed_of (ev_call ?_)
          fail "kr"
          refine ⟨_, _, _, .inl den_pu, rfl, hat, ?_⟩
          fail "kr"
          refine ⟨_, _, _, .inl den_pu, rfl, hat, ?_⟩
          fail "kr"
          refine ⟨rfl, ⟨ds[a], rfl, h3 _ (List.getElem_mem ha)⟩, fun r hr => ?_⟩
          cases (show r = .d (.bool true) from hr)
          exact ⟨_, frz_pu, rfl, rfl⟩
        · rw [filter_yes, map_const, List.length_range]
          refine ⟨List.replicate ds.length true, ?_, rt_d (by rw [List.all_replicate]; cases ds.length <;> rfl)⟩
          rw [List.map_replicate]
          exact den_ow
      · fail "kr"
        rw [decide_eq_true rfl]
        fail "kr"
        refine ev_fR (fun _ => true) (fun _ => .bool true) ?_
        fail "kr"
        refine ⟨wip1 rfl junk_non, Nat.le_of_ble_eq_true rfl, h2, fun a ha => ?_, ?_⟩
        · unfold Turn1C
          simp only [List.set_cons_zero, List.set_cons_succ]
          have hat : atI ds (a : Int) = some ds[a] := atI_nat' (List.getElem?_eq_getElem ha)
          fail "kr"
          refine ⟨rfl, rfl, fun _ => ?_⟩
          refine ed_of (ev_call ?_)
          fail "kr"
          refine ⟨_, _, _, .inr rfl, rfl, hat, ?_⟩
          fail "kr"
          refine ⟨_, _, _, .inr rfl, rfl, hat, ?_⟩
          fail "kr"
          refine ⟨rfl, ⟨ds[a], rfl, h3 _ (List.getElem_mem ha)⟩, fun r hr => ?_⟩
          cases (show r = .d (.bool true) from hr)
          exact ⟨_, frz_pu, rfl, rfl⟩
        · rw [filter_yes, map_const, List.length_range]
          refine ⟨List.replicate ds.length true, ?_, rt_d (by rw [List.all_replicate]; cases ds.length <;> rfl)⟩
          rw [List.map_replicate]
          exact den_ow
end
end Kr

local macro_rules | `(tactic| fail "krd") => `(tactic| (refine Dl.ev_callD rfl ?_; fail "kr"; refine ⟨rfl, rfl, ?_, ?_⟩))
namespace Kr
open PySem PySem.Spec PyProof.Rows L2 Dl
open Evl (Ex)
theorem getD_mem {α : Type} {xs : List α} {i : Nat} (h : i < xs.length) : xs[i]? = some xs[i] := List.getElem?_eq_getElem h
theorem er_mapD : ∀ (xs : List Int) (i : Nat), (xs.eraseIdx i).map PyData.int = (xs.map PyData.int).eraseIdx i
  | [], _ => rfl
  | _ :: _, 0 => rfl
  | x :: r, i + 1 => by
    show _ = PyData.int x :: (r.map PyData.int).eraseIdx i
    rw [← er_mapD r i]
    rfl
theorem perm_erase {α : Type} : ∀ {xs : List α} {i : Nat} {a : α}, xs[i]? = some a → (a :: xs.eraseIdx i).Perm xs
  | x :: r, 0, a, h => by
    cases h
    exact .refl _
  | x :: r, i + 1, a, h => ((List.Perm.swap x a _).trans (.cons x (perm_erase (xs := r) (i := i) h)))
section
variable {P : Program} {w : World} {K : PySem.W.Frag} {mg : Str → Option Value} {base : Heap}
def pMixed (ds : List PyData) : Prop := ∃ ns : List Int, ds = [.list (ns.map PyData.int)] ∧ ns.length ≤ 1000
def tMixed (ds : List PyData) (r : Rt) : Prop := ∀ ns : List Int, ds = [.list (ns.map PyData.int)] → ∃ ms : List Int, r = .l (ms.map PyData.int) ∧ ms.Perm ns
theorem intsD_inj {a b : List Int} (h : a.map PyData.int = b.map PyData.int) : a = b := List.map_inj_right (fun x y h => PyData.int.inj h) |>.mp h
theorem ok__law_mixed (D : Df K mg "_law_mixed" s__law_mixed ["_law_d", "_law_row"]) (B : Bn mg) (c__law_off : Cal P w K mg base 1 "_law_off" (spDi K 1 pOff tOff)) : Cal P w K mg base 2 "_law_mixed" (spDi K 1 pMixed tMixed) := by
  have nd := sc__law_mixed.nd
  refine calDi D sc__law_mixed rfl fun f cdv A outer st H E hr => ⟨_, (pss_cons (ps_set (i := 2) nd rfl (Or.inl rfl) (pe_callTy (Kk.call_list_of (K := K)) (by rfl) B.list (by decide +kernel) (pa_cons (pv 1) pa_nil)))
      (pss_cons (ps_set (i := 3) nd rfl (Or.inl rfl) (pe_lst pa_nil))
      (pss_cons (ps_while PassesOwn.never (pt_cmpR (Kk.op_neD (K := K) hr.units) (pv 2) (pe_lst pa_nil) (nomark _)) (pss_one (ps_expr (Kk.pe_bm (K := K) PySem.F.plainAttrs_list PySem.F.slot_list_append PySem.F.type_list_append mt_append (pv 3) (pa_cons (Kk.pe_bm (K := K) PySem.F.plainAttrs_list PySem.F.slot_list_pop PySem.F.type_list_pop mt_popAt (pv 2) (pa_cons (Dl.pe_c c__law_off hr (pa_cons (pv 0) (pa_cons (pe_callB (Kk.call_len_seq (K := K)) (by rfl) B.len (by decide +kernel) (pa_cons (pv 2) pa_nil)) pa_nil))) pa_nil)) pa_nil)))))
      (pss_one (ps_ret (pv 3)))))), fun d ds hn hp => ?_⟩
  obtain ⟨ns, rfl, hl⟩ := hp
  show ExS K _ _ [.ow (RDi d), .pu (.list (ns.map PyData.int)), .non, .non]
  fail "kr"
  refine xs_while (fun m δ' => ∃ left found : List Int, δ' = [.ow (RDi d), .pu (.list (ns.map PyData.int)), .ow (RL K (left.map PyData.int)), .ow (RL K (found.map PyData.int))] ∧ (found ++ left).Perm ns ∧ m = left.length) ns.length ⟨ns, [], rfl, .refl _, rfl⟩ ?_
  rintro m _ ⟨left, found, rfl, hperm, rfl⟩
  have hlen := hperm.length_eq
  rw [List.length_append] at hlen
  fail "kr"
  refine ⟨shaped_ints _, ?_⟩
  fail "kr"
  cases hleft : left with
  | nil =>
    fail "kr"
    refine ⟨rt_al rfl fun ns2 e => ⟨found, rfl, ?_⟩, rfl, fun z => nomatch z⟩
    have e2 : ns = ns2 := intsD_inj (PyData.list.inj (List.head_eq_of_cons_eq e))
    subst hleft
    rw [List.append_nil] at hperm
    exact e2 ▸ hperm
  | cons l0 lr =>
    rw [← hleft]
    have hpos : 0 < left.length := by rw [hleft]; exact Nat.succ_pos _
    refine ifT (by rw [hleft]; rfl) ?_
    fail "kr"
    refine ev_popAt rfl ?_
    fail "kr"
    rw [List.length_map]
    refine ⟨rfl, _, rfl, by omega, by omega, fun x hx => ?_⟩
    have hx' : x < left.length := by omega
    refine ⟨_, rfl, x, .int left[x], rfl, by rw [List.getElem?_map, getD_mem hx']; rfl, by rw [List.length_map]; omega, ?_⟩
    fail "kr"
    refine ⟨by rw [List.length_map]; omega, ?_⟩
    fail "kr"
    refine ⟨(left.eraseIdx x).length, ?_, left.eraseIdx x, found ++ [left[x]], ?_, ?_, rfl⟩
    · rw [List.length_eraseIdx_of_lt hx']
      omega
    · rw [List.map_append, er_mapD]
      rfl
    · refine List.Perm.trans ?_ hperm
      rw [List.append_assoc]
      exact .append_left _ (perm_erase (getD_mem hx'))
def pNo (ds : List PyData) : Prop := ds = []
structure TimesOk (a b c s t : Int) : Prop where
  takes : 1 ≤ a ∧ a ≤ 20
  ends : 1 ≤ b ∧ b ≤ 20
  waits : 1 ≤ c ∧ c ≤ 20
  stays : 1 ≤ s ∧ s ≤ 50
  tries : 1 ≤ t ∧ t ≤ 9
def tTimes (_ : List PyData) (r : Rt) : Prop := ∃ a b c s t : Int, r = .d (.tuple [.int a, .int b, .int c, .int s, .int t]) ∧ TimesOk a b c s t
theorem ok__law_times (D : Df K mg "_law_times" s__law_times ["_law_d"]) (B : Bn mg) (c__law_off : Cal P w K mg base 1 "_law_off" (spDi K 1 pOff tOff)) : Cal P w K mg base 2 "_law_times" (spDi K 0 pNo tTimes) := by
  have nd := sc__law_times.nd
  refine calDi D sc__law_times rfl fun f cdv A outer st H E hr => ⟨_, (pss_cons (ps_set (i := 1) nd rfl (Or.inl rfl) (pe_ix (Kk.ix_list (K := K)) (pe_lst (pa_cons pe_int (pa_cons pe_int pa_nil))) (pe_callTy call_int1 (by rfl) B.int (by decide +kernel) (pa_cons (pe_cmpR op_eq (Dl.pe_c c__law_off hr (pa_cons (pv 0) (pa_cons pe_int pa_nil))) pe_int (nomark _)) pa_nil)) (fun _ _ => rfl)))
      (pss_cons (ps_set (i := 2) nd rfl (Or.inl rfl) (pe_ix (Kk.ix_list (K := K)) (pe_lst (pa_cons pe_int (pa_cons pe_int (pa_cons pe_int (pa_cons (pe_op op_add pe_int (Dl.pe_c c__law_off hr (pa_cons (pv 0) (pa_cons pe_int pa_nil)))) pa_nil))))) (Dl.pe_c c__law_off hr (pa_cons (pv 0) (pa_cons pe_int pa_nil))) (fun _ _ => rfl)))
      (pss_cons (ps_set (i := 3) nd rfl (Or.inl rfl) (pe_ix (Kk.ix_list (K := K)) (pe_lst (pa_cons (pe_op op_add pe_int (Dl.pe_c c__law_off hr (pa_cons (pv 0) (pa_cons pe_int pa_nil)))) (pa_cons (pe_op op_add pe_int (Dl.pe_c c__law_off hr (pa_cons (pv 0) (pa_cons pe_int pa_nil)))) pa_nil))) (pe_callTy call_int1 (by rfl) B.int (by decide +kernel) (pa_cons (pe_cmpR op_eq (Dl.pe_c c__law_off hr (pa_cons (pv 0) (pa_cons pe_int pa_nil))) pe_int (nomark _)) pa_nil)) (fun _ _ => rfl)))
      (pss_one (ps_ret (pe_tup (pa_cons (pe_op op_add pe_int (Dl.pe_c c__law_off hr (pa_cons (pv 0) (pa_cons (pv 1) pa_nil)))) (pa_cons (pe_op op_add pe_int (Dl.pe_c c__law_off hr (pa_cons (pv 0) (pa_cons (pv 1) pa_nil)))) (pa_cons (pe_op op_add pe_int (Dl.pe_c c__law_off hr (pa_cons (pv 0) (pa_cons (pv 1) pa_nil)))) (pa_cons (pv 3) (pa_cons (pv 2) pa_nil))))))))))), fun d ds hn hp => ?_⟩
  cases (show ds = [] from hp)
  show ExS K _ _ [.ow (RDi d), .non, .non, .non]
  have two : ∀ (b : Bool) (x y : Int), ∃ z, atI [PyData.int x, .int y] (if b = true then 1 else 0) = some (.int z) ∧ (z = x ∨ z = y) := fun b x y => by
    cases b
    · exact ⟨x, rfl, .inl rfl⟩
    · exact ⟨y, rfl, .inr rfl⟩
  fail "kr"
  intro x1 hx1
  fail "kr"
  obtain ⟨few, e1, hfew⟩ := two (decide ((x1 : Int) = 0)) 3 20
  refine ⟨_, _, _, den_ow, rfl, e1, ?_⟩
  fail "kr"
  intro x2 hx2
  fail "kr"
  intro x3 hx3
  fail "kr"
  have e2 : ∃ z, atI [PyData.int 2, .int 3, .int 9, .int (1 + (x2 : Int))] (x3 : Int) = some (.int z) ∧ 1 ≤ z ∧ z ≤ 9 := by
    have h : x3 = 0 ∨ x3 = 1 ∨ x3 = 2 ∨ x3 = 3 := by omega
    rcases h with rfl | rfl | rfl | rfl
    · exact ⟨2, rfl, by decide, by decide⟩
    · exact ⟨3, rfl, by decide, by decide⟩
    · exact ⟨9, rfl, by decide, by decide⟩
    · exact ⟨1 + (x2 : Int), rfl, by omega, by omega⟩
  obtain ⟨tries, e2, ht⟩ := e2
  refine ⟨_, _, _, den_ow, rfl, e2, ?_⟩
  fail "kr"
  intro x4 hx4
  fail "kr"
  intro x5 hx5
  fail "kr"
  intro x6 hx6
  fail "kr"
  obtain ⟨stays, e3, hs⟩ := two (decide ((x6 : Int) = 0)) (1 + (x4 : Int)) (1 + (x5 : Int))
  refine ⟨_, _, _, den_ow, rfl, e3, ?_⟩
  fail "kr"
  refine ⟨rfl, _, rfl, by omega, by omega, fun x7 hx7 => ?_⟩
  fail "kr"
  refine ⟨rfl, _, rfl, by omega, by omega, fun x8 hx8 => ?_⟩
  fail "kr"
  refine ⟨rfl, _, rfl, by omega, by omega, fun x9 hx9 => ?_⟩
  fail "kr"
  refine ⟨rt_d ⟨_, _, _, _, _, rfl, ⟨by omega, by omega⟩, ⟨by omega, by omega⟩, ⟨by omega, by omega⟩, ⟨by omega, by omega⟩, ht⟩, rfl, fun z => nomatch z⟩
end
end Kr

namespace Kr
open PySem PySem.Spec PyProof.Rows L2 Dl
open Evl (Ex)
theorem rgI_iz (n : Nat) : rgI 0 (n : Int) = iz (List.range n) := by
  unfold rgI iz
  rw [Int.sub_zero, Int.toNat_natCast]
  exact List.map_congr_left fun i _ => Int.zero_add _
theorem perm_iz {ms : List Int} {ns : List Nat} (h : ms.Perm (iz ns)) : ∃ o : List Nat, ms = iz o ∧ o.Perm ns := by
  refine ⟨ms.map Int.toNat, ?_, ?_⟩
  · unfold iz
    rw [List.map_map]
    have : ∀ x ∈ ms, ((fun (n : Nat) => (n : Int)) ∘ Int.toNat) x = x := fun x hx => by
      obtain ⟨y, rfl, _⟩ := iz_ex (h.mem_iff.mp hx)
      show ((Int.toNat (y : Int) : Nat) : Int) = _
      rw [Int.toNat_natCast]
    rw [List.map_congr_left this]
    exact (List.map_id _).symm
  · have := h.map Int.toNat
    have e : (iz ns).map Int.toNat = ns := by
      unfold iz
      rw [List.map_map]
      exact (List.map_congr_left (fun x _ => Int.toNat_natCast x)).trans (List.map_id _)
    rwa [e] at this
theorem nodup_len' : ∀ (l o : List Nat), l.Nodup → (∀ x ∈ l, x ∈ o) → l.length ≤ o.length
  | [], _, _, _ => Nat.zero_le _
  | a :: r, o, hd, h => by
    obtain ⟨h1, h2⟩ := List.nodup_cons.mp hd
    have := nodup_len' r (o.erase a) h2 fun x hx => (List.mem_erase_of_ne (by intro e; subst e; exact h1 hx)).mpr (h x (List.mem_cons_of_mem _ hx))
    have ha := h a (List.mem_cons_self ..)
    rw [List.length_erase_of_mem ha] at this
    have := List.length_pos_of_mem ha
    rw [List.length_cons]
    omega
def tupD (l : List Nat) : PyData := .tuple ((iz l).map PyData.int)
/-- wants told of so far: each service wants those ahead of it in a row o -/
def Told (o : List Nat) (ws : List (List Nat)) : Prop := ws.length = o.length ∧ ∀ i l, ws[i]? = some l → l.Pairwise (· < ·) ∧ ∀ x ∈ l, x < o.length ∧ o.idxOf x < o.idxOf i
structure Row (o : List Nat) (n : Nat) : Prop where
  perm : o.Perm (List.range n)
theorem Row.len {o : List Nat} {n : Nat} (h : Row o n) : o.length = n := by rw [h.perm.length_eq, List.length_range]
theorem Row.nd {o : List Nat} {n : Nat} (h : Row o n) : o.Nodup := h.perm.nodup_iff.mpr List.nodup_range
theorem Row.lt {o : List Nat} {n : Nat} (h : Row o n) {x : Nat} (hx : x ∈ o) : x < n := List.mem_range.mp (h.perm.mem_iff.mp hx)
theorem Row.at {o : List Nat} {n k : Nat} (h : Row o n) (hk : k < o.length) : o.idxOf o[k] = k := h.nd.idxOf_getElem k hk
/-- some of those ahead of place q -/
def Some_ (o : List Nat) (q : Nat) (l : List Nat) : Prop := l.Nodup ∧ ∀ x ∈ l, ∃ k, k < q ∧ o[k]? = some x
theorem Some_.nil {o : List Nat} {q : Nat} : Some_ o q [] := ⟨List.nodup_nil, fun x hx => nomatch hx⟩
theorem Some_.snoc {o : List Nat} {k : Nat} {l : List Nat} (hn : o.Nodup) (h : Some_ o k l) (hk : k < o.length) : Some_ o (k + 1) (l ++ [o[k]]) := by
  refine ⟨?_, fun x hx => ?_⟩
  · rw [List.nodup_append]
    refine ⟨h.1, List.nodup_cons.mpr ⟨by simp, List.nodup_nil⟩, fun a ha b hb e => ?_⟩
    rw [List.mem_singleton.mp hb] at e
    obtain ⟨j, hj, ho⟩ := h.2 a ha
    obtain ⟨hj2, e2⟩ := List.getElem?_eq_some_iff.mp ho
    have := hn.idxOf_getElem j hj2
    rw [e2, e, hn.idxOf_getElem k hk] at this
    omega
  · rcases List.mem_append.mp hx with hx | hx
    · obtain ⟨j, hj, ho⟩ := h.2 x hx
      exact ⟨j, by omega, ho⟩
    · rw [List.mem_singleton.mp hx]
      exact ⟨k, by omega, List.getElem?_eq_getElem hk⟩
theorem Some_.up {o : List Nat} {k k2 : Nat} {l : List Nat} (h : Some_ o k l) (l2 : k ≤ k2) : Some_ o k2 l := ⟨h.1, fun x hx => by
  obtain ⟨j, hj, ho⟩ := h.2 x hx
  exact ⟨j, by omega, ho⟩⟩
theorem Some_.one {o : List Nat} {k q : Nat} (hk : k < o.length) (hq : k < q) : Some_ o q [o[k]] := ⟨List.nodup_cons.mpr ⟨by simp, List.nodup_nil⟩, fun x hx => by
  rw [List.mem_singleton.mp hx]
  exact ⟨k, hq, List.getElem?_eq_getElem hk⟩⟩
theorem Some_.take {o : List Nat} {q : Nat} (hn : o.Nodup) : Some_ o q (o.take q) := ⟨hn.sublist (List.take_sublist q o), fun x hx => by
  obtain ⟨k, hk⟩ := List.mem_iff_getElem?.mp hx
  rw [List.getElem?_take] at hk
  split at hk
  · exact ⟨k, by assumption, hk⟩
  · cases hk⟩
theorem Some_.len {o : List Nat} {q : Nat} {l : List Nat} (h : Some_ o q l) : l.length ≤ o.length := by
  have := nodup_len' l o h.1 fun x hx => by
    obtain ⟨k, _, hk⟩ := h.2 x hx
    exact List.mem_of_getElem? hk
  exact this
theorem rise_of {l : List Nat} (h : (iz l).Pairwise (· ≤ ·)) (hn : l.Nodup) : l.Pairwise (· < ·) := by
  unfold iz at h
  rw [List.pairwise_map] at h
  exact (h.and hn).imp fun ⟨a, b⟩ => by omega
theorem atIz {o : List Nat} {k : Nat} (hk : k < o.length) : atI ((iz o).map PyData.int) (k : Int) = some (.int (o[k] : Int)) := atI_nat' (by
  unfold iz
  rw [List.map_map, List.getElem?_map, List.getElem?_eq_getElem hk]
  rfl)
theorem cut_take {ds : List PyData} {q : Nat} (h : q ≤ ds.length) : Dl.cutD ds none (some (q : Int)) = ds.take q := by
  unfold Dl.cutD
  rw [HT.sIx_nat, HT.sIx_none, Nat.min_eq_left h]
  rfl
theorem Told.set {o : List Nat} {n q : Nat} {ws : List (List Nat)} {l : List Nat} (hr : Row o n) (h : Told o ws) (hq : q < o.length) (hl : l.Pairwise (· < ·)) (hs : ∀ x ∈ l, ∃ k, k < q ∧ o[k]? = some x) : Told o (ws.set o[q] l) := by
  refine ⟨by rw [List.length_set]; exact h.1, fun i l' hi => ?_⟩
  by_cases e : o[q] = i
  · subst e
    have hlt : o[q] < ws.length := by rw [h.1, hr.len]; exact hr.lt (List.getElem_mem hq)
    rw [List.getElem?_set_self hlt] at hi
    cases hi
    refine ⟨hl, fun x hx => ?_⟩
    obtain ⟨k, hk, hko⟩ := hs x hx
    obtain ⟨hk2, rfl⟩ := List.getElem?_eq_some_iff.mp hko
    refine ⟨by rw [hr.len]; exact hr.lt (List.getElem_mem hk2), ?_⟩
    rw [hr.at hk2, hr.at hq]
    exact hk
  · rw [List.getElem?_set_ne e] at hi
    exact h.2 i l' hi
theorem told_nil {o : List Nat} {n : Nat} (hr : Row o n) : Told o (List.replicate n []) := by
  refine ⟨by rw [List.length_replicate, hr.len], fun i l hi => ?_⟩
  obtain ⟨h1, h2⟩ := List.getElem?_eq_some_iff.mp hi
  rw [List.getElem_replicate] at h2
  subst h2
  exact ⟨List.Pairwise.nil, fun x hx => nomatch hx⟩
theorem told_good {o : List Nat} {n : Nat} {ws : List (List Nat)} {p : Pl} (hr : Row o n) (h : Told o ws) (h1 : 1 ≤ n) (h12 : n ≤ 12) (hp : p.length = n) (hs : ∀ (i : Nat) (s : Svc), p[i]? = some s → ws[i]? = some s.wants ∧ TimesOk s.takes s.ends s.waits s.stays s.tries) : Good p := by
  refine ⟨⟨by omega, by omega, fun i s hi => ?_⟩, fun i => o.idxOf i, fun i x hx => ?_⟩
  · obtain ⟨hw, ht⟩ := hs i s hi
    obtain ⟨a, b⟩ := h.2 i _ hw
    refine ⟨a, fun x hx => ?_, ht.takes, ht.ends, ht.waits, ht.stays, ht.tries⟩
    obtain ⟨c, d⟩ := b x hx
    rw [hr.len] at c
    exact ⟨by omega, fun e => by rw [e] at d; omega⟩
  · unfold wantsOf at hx
    cases hi : p[i]? with
    | none => rw [hi] at hx; cases hx
    | some s =>
      rw [hi] at hx
      exact (h.2 i _ (hs i s hi).1).2 x hx |>.2
section
variable {P : Program} {w : World} {K : PySem.W.Frag} {mg : Str → Option Value} {base : Heap}
def pPlan (ds : List PyData) : Prop := ∃ k : Nat, ds = [.int (k : Int)] ∧ 1 ≤ k ∧ k ≤ 12
def tPlan (ds : List PyData) (r : Rt) : Prop := ∀ k : Nat, ds = [.int (k : Int)] → ∃ p : Pl, r = .d (planD p) ∧ Good p ∧ p.length ≤ k
theorem ok__law_plan (D : Df K mg "_law_plan" s__law_plan ["_law_d", "_law_limit"]) (B : Bn mg) (c__law_off : Cal P w K mg base 1 "_law_off" (spDi K 1 pOff tOff)) (c__law_mixed : Cal P w K mg base 2 "_law_mixed" (spDi K 1 pMixed tMixed)) (c__law_times : Cal P w K mg base 2 "_law_times" (spDi K 0 pNo tTimes)) : Cal P w K mg base 3 "_law_plan" (spDi K 1 pPlan tPlan) := by
  have nd := sc__law_plan.nd
  refine calDi D sc__law_plan rfl fun f cdv A outer st H E hr => ⟨_, (pss_cons (ps_set (i := 2) nd rfl (Or.inl rfl) (pe_op op_add pe_int (Dl.pe_c c__law_off hr (pa_cons (pv 0) (pa_cons (pv 1) pa_nil)))))
      (pss_cons (ps_set (i := 3) nd rfl (Or.inr rfl) (Dl.pe_c c__law_mixed hr (pa_cons (pv 0) (pa_cons (pe_listRg rfl (by rfl) B.list (prg_1 (by rfl) B.range (pv 2))) pa_nil))))
      (pss_cons (ps_set (i := 4) nd rfl (Or.inl rfl) (Dl.pe_c c__law_off hr (pa_cons (pv 0) (pa_cons pe_int pa_nil))))
      (pss_cons (ps_set (i := 5) nd rfl (Or.inr rfl) (pe_ix (Kk.ix_list (K := K)) (pe_lst (pa_cons pe_int (pa_cons pe_int (pa_cons pe_int (pa_cons pe_int (pa_cons pe_int (pa_cons pe_int pa_nil))))))) (pv 4) (fun _ _ => rfl)))
      (pss_cons (ps_set (i := 6) nd rfl (Or.inr rfl) (pe_op op_rep (pe_lst (pa_cons (pe_tup pa_nil) pa_nil)) (pv 2)))
      (pss_cons (ps_for PassesOwn.never rfl (pi_range2 (by rfl) B.range (pa_cons pe_int (pa_cons (pv 2) pa_nil))) (pg_name (i := 7) nd rfl (Or.inl rfl)) (pss_cons (ps_setLc (own := [("_law_k", 9)]) (i := 8) rfl nd rfl rfl (sw_true rfl rfl rfl (by decide +kernel)) (pi_range1 (by rfl) B.range (pa_cons (pv 7) pa_nil)) (blkOk_by (by kernel_rfl)) (fun _ _ _ _ _ => (pg_name (i := 9) nd rfl (by first | exact Or.inl rfl | exact Or.inr rfl))) (fun _ _ _ _ _ => (pts_one (pt_cmpR op_eq (Dl.pe_c c__law_off hr (pa_cons (pv 0) (pa_cons (pv 5) pa_nil))) pe_int (nomark _)))) (fun _ _ _ _ _ => (pe_ix (Kk.ix_list (K := K)) (pv 3) (pv 9) (fun _ _ => rfl))))
      (pss_cons (ps_if (pt_cmpR op_eq (pv 4) pe_int (nomark _)) (pss_one (ps_set (i := 8) nd rfl (Or.inl rfl) (pe_lst (pa_cons (pe_ix (Kk.ix_list (K := K)) (pv 3) (pe_op op_sub (pv 7) pe_int) (fun _ _ => rfl)) pa_nil)))) pss_nil)
      (pss_cons (ps_if (pt_cmpR op_eq (pv 4) pe_int (nomark _)) (pss_one (ps_set (i := 8) nd rfl (Or.inl rfl) (pe_lst (pa_cons (pe_ix (Kk.ix_list (K := K)) (pv 3) (Dl.pe_c c__law_off hr (pa_cons (pv 0) (pa_cons (pv 7) pa_nil))) (fun _ _ => rfl)) pa_nil)))) pss_nil)
      (pss_cons (ps_if (pt_cmpR op_eq (pv 4) pe_int (nomark _)) (pss_one (ps_set (i := 8) nd rfl (Or.inl rfl) (pe_ifExp (pt_cmpR op_eq (pv 7) (pe_op op_sub (pv 2) pe_int) (nomark _)) (pe_slice (Kk.sl_list (K := K)) (pv 3) po_none (po_some (pv 7))) (pe_lst pa_nil)))) pss_nil)
      (pss_one (ps_asg (Kk.pe_tupleOf (K := K) (by rfl) B.tuple (pe_callB (Kk.cr_sortedI (K := K)) (by rfl) B.sorted (by decide +kernel) (pa_cons (pv 8) pa_nil))) (pg_sub (pv 6) (pe_ix (Kk.ix_list (K := K)) (pv 3) (pv 7) (fun _ _ => rfl)) set_list))))))))
      (pss_one (ps_ret (Kk.pe_tupleOf (K := K) (by rfl) B.tuple (pe_lc (own := [("_law_number", 10)]) rfl nd (pi_range1 (by rfl) B.range (pa_cons (pv 2) pa_nil)) (blkOk_by (by kernel_rfl)) (fun _ _ _ _ _ => (pg_name (i := 10) nd rfl (by first | exact Or.inl rfl | exact Or.inr rfl))) (fun _ _ _ _ _ => pts_nil) (fun _ _ _ _ _ => (pe_op (Kk.op_catA (K := K)) (pe_tup (pa_cons (pe_ix (Kk.ix_list (K := K)) (pv 6) (pv 10) (fun _ _ => rfl)) pa_nil)) (Dl.pe_c c__law_times hr (pa_cons (pv 0) pa_nil)))))))))))))), fun d ds hn hp => ?_⟩
  obtain ⟨lim, rfl, hl1, hl2⟩ := hp
  show ExS K _ _ [.ow (RDi d), .pu (.int lim), .non, .non, .non, .non, .non, .non, .non, .non, .non]
  fail "kr"
  refine ⟨rfl, _, rfl, by omega, by omega, fun x1 hx1 => ?_⟩
  fail "kr"
  have en : (1 + (x1 : Int)) = ((1 + x1 : Nat) : Int) := by omega
  have hn1 : 1 ≤ 1 + x1 := by omega
  have hn2 : 1 + x1 ≤ lim := by omega
  rw [en]
  generalize 1 + x1 = n at hn1 hn2
  clear en hx1 x1
  refine ev_callD rfl ?_
  fail "kr"
  refine ⟨by omega, by omega, ?_⟩
  rw [rgI_iz]
  fail "kr"
  refine ⟨rfl, rfl, ⟨_, rfl, by rw [iz_len, List.length_range]; omega⟩, fun r hr => ?_⟩
  obtain ⟨ms, rfl, hms⟩ := hr _ rfl
  obtain ⟨o, rfl, ho⟩ := perm_iz hms
  have hrow : Row o n := ⟨ho⟩
  clear hr hms ho
  have hol := hrow.len
  fail "kr"
  intro kind hkind
  fail "kr"
  have e1 : ∃ z, atI [PyData.int 4, .int 4, .int 4, .int 4, .int 2, .int 1] (kind : Int) = some (.int z) ∧ 1 ≤ z ∧ z ≤ 4 := by
    have h : kind = 0 ∨ kind = 1 ∨ kind = 2 ∨ kind = 3 ∨ kind = 4 ∨ kind = 5 := by omega
    rcases h with rfl | rfl | rfl | rfl | rfl | rfl
    · exact ⟨4, rfl, by decide, by decide⟩
    · exact ⟨4, rfl, by decide, by decide⟩
    · exact ⟨4, rfl, by decide, by decide⟩
    · exact ⟨4, rfl, by decide, by decide⟩
    · exact ⟨2, rfl, by decide, by decide⟩
    · exact ⟨1, rfl, by decide, by decide⟩
  obtain ⟨often, e1, hof1, hof2⟩ := e1
  refine ⟨_, _, _, den_ow, rfl, e1, ?_⟩
  fail "kr"
  refine ⟨by omega, by omega, by show 1 * _ ≤ _; omega, ?_⟩
  have ew : (List.replicate ((n : Int)).toNat [PyData.tuple []]).flatten = (List.replicate n ([] : List Nat)).map tupD := by
    rw [Int.toNat_natCast]
    clear hol hrow hn1 hn2
    induction n with
    | zero => rfl
    | succ n ih =>
      rw [List.replicate_succ, List.flatten_cons, ih]
      rfl
  rw [ew]
  fail "kr"
  refine xs_forR2 ?_
  fail "kr"
  refine ⟨⟨by decide, by decide, by omega, by omega⟩, fun _ δ' => ∃ ws s7 s8, δ' = [.ow (RDi d), .pu (.int lim), .pu (.int n), .ow (RL K ((iz o).map PyData.int)), .pu (.int kind), .pu (.int often), .ow (RL K (ws.map tupD)), s7, s8, .non, .non] ∧ Told o ws, ⟨_, _, _, rfl, told_nil hrow⟩, fun i δ' hi => ?_, fun δ' => ?_⟩
  · rintro ⟨ws, s7, s8, rfl, hws⟩
    have eq1 : (1 + (i : Int)) = ((1 + i : Nat) : Int) := by omega
    have hq : 1 + i < n := by omega
    have hq1 : 1 ≤ 1 + i := by omega
    rw [eq1]
    generalize 1 + i = q at hq hq1
    clear eq1 hi
    have hqo : q < o.length := by omega
    refine turn1_name (Nat.le_of_ble_eq_true rfl) ?_
    refine xs_seq ?_
    dsimp only
    refine xs_mid (fun δ' => ∃ l : List Nat, δ' = [.ow (RDi d), .pu (.int lim), .pu (.int n), .ow (RL K ((iz o).map PyData.int)), .pu (.int kind), .pu (.int often), .ow (RL K (ws.map tupD)), .pu (.int q), .ow (RL K ((iz l).map PyData.int)), .non, .non] ∧ Some_ o q l) ?_ ?_
    · fail "kr"
      refine ev_lcR1 ?_
      fail "kr"
      refine ⟨by omega, by omega, wip1 rfl junk_non, fun k acc => ∃ l : List Nat, acc = (iz l).map PyData.int ∧ Some_ o k l, ⟨[], rfl, .nil⟩, ?_, ?_⟩
      · rintro k _ hk ⟨l, rfl, hl⟩
        have hk' : k < o.length := by omega
        refine turnC1 (Nat.le_of_ble_eq_true rfl) ?_
        simp only [List.set_cons_zero, List.set_cons_succ]
        fail "kr"
        refine ⟨rfl, _, rfl, by omega, by omega, fun x hx => ?_⟩
        fail "kr"
        refine ⟨rfl, ifB (fun h => ?_) (fun h => ?_)⟩
        · fail "kr"
          refine ⟨_, _, _, den_al rfl, rfl, atIz hk', ?_⟩
          refine ⟨_, frz_pu, rfl, ?_, l ++ [o[k]], ?_, hl.snoc hrow.nd hk'⟩
          · have := hl.len
            rw [List.length_map, iz_len]
            omega
          · rw [iz_app, List.map_append]
            rfl
        · exact ⟨l, rfl, hl.up (by omega)⟩
      · rintro _ ⟨l, rfl, hl⟩
        fail "kr"
        first | exact ⟨l, rfl, hl.up (by omega)⟩ | exact hl.up (by omega)
    · rintro _ ⟨l, rfl, hl⟩
      refine xs_seq ?_
      dsimp only
      refine xs_mid (fun δ' => ∃ l : List Nat, δ' = [.ow (RDi d), .pu (.int lim), .pu (.int n), .ow (RL K ((iz o).map PyData.int)), .pu (.int kind), .pu (.int often), .ow (RL K (ws.map tupD)), .pu (.int q), .ow (RL K ((iz l).map PyData.int)), .non, .non] ∧ Some_ o q l) ?_ ?_
      · fail "kr"
        refine ifB (fun h => ?_) (fun h => ?_)
        · have eqm : ((q : Int) - 1) = ((q - 1 : Nat) : Int) := by omega
          have hqm : q - 1 < o.length := by omega
          fail "kr"
          rw [eqm]
          refine ⟨_, _, _, den_al rfl, rfl, atIz hqm, ?_⟩
          fail "kr"
          exact ⟨[o[q - 1]], rfl, Some_.one hqm (by omega)⟩
        · fail "kr"
          first | exact ⟨l, rfl, hl⟩ | exact hl
      · clear hl l
        rintro _ ⟨l, rfl, hl⟩
        refine xs_seq ?_
        dsimp only
        refine xs_mid (fun δ' => ∃ l : List Nat, δ' = [.ow (RDi d), .pu (.int lim), .pu (.int n), .ow (RL K ((iz o).map PyData.int)), .pu (.int kind), .pu (.int often), .ow (RL K (ws.map tupD)), .pu (.int q), .ow (RL K ((iz l).map PyData.int)), .non, .non] ∧ Some_ o q l) ?_ ?_
        · fail "kr"
          refine ifB (fun h => ?_) (fun h => ?_)
          · fail "kr"
            refine ⟨rfl, _, rfl, by omega, by omega, fun x hx => ?_⟩
            have hxo : x < o.length := by omega
            refine ⟨_, _, _, den_al rfl, rfl, atIz hxo, ?_⟩
            fail "kr"
            exact ⟨[o[x]], rfl, Some_.one hxo (by omega)⟩
          · fail "kr"
            first | exact ⟨l, rfl, hl⟩ | exact hl
        · clear hl l
          rintro _ ⟨l, rfl, hl⟩
          refine xs_seq ?_
          dsimp only
          refine xs_mid (fun δ' => ∃ l : List Nat, δ' = [.ow (RDi d), .pu (.int lim), .pu (.int n), .ow (RL K ((iz o).map PyData.int)), .pu (.int kind), .pu (.int often), .ow (RL K (ws.map tupD)), .pu (.int q), .ow (RL K ((iz l).map PyData.int)), .non, .non] ∧ Some_ o q l) ?_ ?_
          · fail "kr"
            refine ifB (fun h => ?_) (fun h => ?_)
            · fail "kr"
              refine ifB (fun h => ?_) (fun h => ?_)
              · fail "kr"
                rw [cut_take (by rw [List.length_map, iz_len]; omega)]
                exact ⟨o.take q, by rw [← List.map_take]; unfold iz; rw [← List.map_take]; rfl, Some_.take hrow.nd⟩
              · fail "kr"
                exact ⟨[], rfl, .nil⟩
            · fail "kr"
              first | exact ⟨l, rfl, hl⟩ | exact hl
          · clear hl l
            rintro _ ⟨l, rfl, hl⟩
            fail "kr"
            intro ns' hp hs
            obtain ⟨l', rfl, hp'⟩ := perm_iz hp
            have hr2 : l'.Pairwise (· < ·) := rise_of hs (hp'.nodup_iff.mpr hl.1)
            fail "kr"
            refine ⟨by rw [List.length_map, iz_len, hp'.length_eq]; have := hl.len; omega, ?_⟩
            fail "kr"
            have hoq : o[q] < ws.length := by rw [hws.1, hol]; exact hrow.lt (List.getElem_mem hqo)
            refine ⟨_, _, _, den_al rfl, rfl, atIz hqo, ?_⟩
            refine ⟨_, _, rfl, rfl, ixN_nat (by rw [List.length_map]; exact hoq), ?_⟩
            refine ⟨ws.set o[q] l', .pu (.int (q : Int)), .ow (RL K ((iz l).map PyData.int)), ?_, hws.set hrow hqo hr2 fun x hx => hl.2 x (hp'.mem_iff.mp hx)⟩
            rw [List.map_set]
            rfl
  · rintro ⟨ws, s7, s8, rfl, hws⟩
    fail "kr"
    refine ev_lcR1 ?_
    fail "kr"
    refine ⟨by omega, by omega, wip1 rfl junk_non, fun k acc => ∃ ss : Pl, acc = ss.map svcD ∧ ss.length = k ∧ ∀ (j : Nat) (s : Svc), ss[j]? = some s → ws[j]? = some s.wants ∧ TimesOk s.takes s.ends s.waits s.stays s.tries, ⟨[], rfl, rfl, fun j s hj => nomatch hj⟩, ?_, ?_⟩
    · rintro k _ hk ⟨ss, rfl, hsl, hss⟩
      have hkw : k < ws.length := by rw [hws.1]; omega
      have hat : atI (ws.map tupD) (k : Int) = some (tupD ws[k]) := atI_nat' (by rw [List.getElem?_map, List.getElem?_eq_getElem hkw]; rfl)
      refine turnC1 (Nat.le_of_ble_eq_true rfl) ?_
      simp only [List.set_cons_zero, List.set_cons_succ]
      fail "kr"
      refine ⟨rfl, ifT rfl ?_⟩
      fail "kr"
      refine ⟨_, _, _, den_al rfl, rfl, hat, ?_⟩
      fail "kr"
      refine ev_callD rfl ?_
      fail "kr"
      refine ⟨rfl, rfl, rfl, fun r hr => ?_⟩
      obtain ⟨a, b, c, s, t, rfl, ht⟩ := hr
      refine ⟨_, _, rfl, rfl, by show 1 + 5 ≤ 100000; decide, ?_⟩
      refine ⟨_, frz_pu, rfl, by rw [List.length_map]; omega, ss ++ [⟨ws[k], a, b, c, s, t⟩], ?_, ?_, fun j s2 hj => ?_⟩
      · rw [List.map_append]
        rfl
      · rw [List.length_append, hsl]
        rfl
      · rcases Nat.lt_or_ge j ss.length with h | h
        · rw [List.getElem?_append_left h] at hj
          exact hss j s2 hj
        · rw [List.getElem?_append_right h] at hj
          have e0 : j - ss.length = 0 := by
            have := (List.getElem?_eq_some_iff.mp hj).1
            simp at this
            omega
          rw [e0] at hj
          cases hj
          have ej : j = k := by omega
          subst ej
          exact ⟨List.getElem?_eq_getElem hkw, ht⟩
    · rintro _ ⟨ss, rfl, hsl, hss⟩
      have hsl' : ss.length = n := by omega
      fail "kr"
      refine ⟨by rw [List.length_map]; omega, ?_⟩
      exact ⟨rt_d fun k2 hk2 => by
        cases hk2
        exact ⟨ss, rfl, told_good hrow hws hn1 (by omega) hsl' hss, by omega⟩, rfl, fun z => nomatch z⟩
end
end Kr

namespace Kr
open PySem PySem.Spec PyProof.Rows L2 Dl
open Evl (Ex)
section
variable {P : Program} {w : World} {K : PySem.W.Frag} {mg : Str → Option Value} {base : Heap}
def pIdx (ds : List PyData) : Prop := ∃ (p : Pl) (i : Nat), ds = [planD p, .int (i : Int)] ∧ Good p ∧ i < p.length
theorem ok_need_service (D : Df K mg "need_service" s_need_service ["plan", "number"]) (B : Bn mg) (c_is_between : Cal P w K mg base 1 "is_between" (spP K 3 pBetween tBetween)) : Cal P w K mg base 2 "need_service" (spP K 2 pIdx tNone) := by
  have nd := sc_need_service.nd
  refine calP D sc_need_service rfl fun f cdv A outer st H E hr => ⟨_, (pss_one (ps_if (pt_not (pt_val (Dl.pe_c c_is_between hr (pa_cons (pv 1) (pa_cons pe_int (pa_cons (pe_op op_sub (pe_callB (Kk.call_len_seq (K := K)) (by rfl) B.len (by decide +kernel) (pa_cons (pv 0) pa_nil)) pe_int) pa_nil)))))) (pss_one ps_never) pss_nil)), fun ds hn hp => ?_⟩
  obtain ⟨p, i, rfl, hg, hi⟩ := hp
  show ExS K _ _ [.pu (planD p), .pu (.int i)]
  fail "kr"
  refine ev_call ?_
  fail "kr"
  refine ⟨rfl, ⟨_, _, _, rfl⟩, fun r hr => ?_⟩
  rw [hr _ _ _ rfl, planD_len, betw_yes (by omega) (by omega)]
  fail "kr"
  rfl
def tWantedBy (ds : List PyData) (r : Rt) : Prop := ∀ (p : Pl) (i : Nat), ds = [planD p, .int (i : Int)] → r = .l ((iz (wantedBy p i)).map PyData.int)
theorem ok_wanted_by (D : Df K mg "wanted_by" s_wanted_by ["plan", "number"]) (B : Bn mg) : Cal P w K mg base 1 "wanted_by" (spP K 2 pIdx tWantedBy) := by
  have nd := sc_wanted_by.nd
  refine calP D sc_wanted_by rfl fun f cdv A outer st H E hr => ⟨_, (pss_one (ps_ret (pe_lc (own := [("other", 2)]) rfl nd (pi_range1 (by rfl) B.range (pa_cons (pe_callB (Kk.call_len_seq (K := K)) (by rfl) B.len (by decide +kernel) (pa_cons (pv 0) pa_nil)) pa_nil)) (blkOk_by (by kernel_rfl)) (fun _ _ _ _ _ => (pg_name (i := 2) nd rfl (by first | exact Or.inl rfl | exact Or.inr rfl))) (fun _ _ _ _ _ => (pts_one (pt_cmpR (Kk.op_in_seq (K := K)) (pv 1) (pe_ix (Kk.ix_tup (K := K)) (pe_ix (Kk.ix_tup (K := K)) (pv 0) (pv 2) (fun _ _ => rfl)) pe_int (fun _ _ => rfl)) (by rfl)))) (fun _ _ _ _ _ => (pv 2))))), fun ds hn hp => ?_⟩
  obtain ⟨p, i, rfl, hg, hi⟩ := hp
  have hlen := hg.sound.few
  show ExS K _ _ [.pu (planD p), .pu (.int i), .non]
  fail "kr"
  refine ev_fR (fun j => decide (i ∈ wantsOf p j)) (fun j => .int (j : Int)) ?_
  fail "kr"
  rw [planD_len]
  refine ⟨wip1 rfl junk_non, Nat.le_of_ble_eq_true rfl, by omega, fun a ha => ?_, ?_⟩
  · obtain ⟨s, hs, hat⟩ := atI_plan ha
    unfold Turn1C
    simp only [List.set_cons_zero, List.set_cons_succ]
    fail "kr"
    refine ⟨_, _, _, rfl, rfl, hat, ?_⟩
    fail "kr"
    refine ⟨rfl, ?_, fun _ => ?_⟩
    · rw [if_neg Bool.false_ne_true, wantsOf_some hs]
      exact decide_eq_decide.mpr iz_mem
    · fail "kr"
      exact ⟨rfl, rfl⟩
  · refine rt_l fun q j e => ?_
    have e1 : p = q := planD_inj (List.head_eq_of_cons_eq e)
    have e2 : (i : Int) = (j : Int) := PyData.int.inj (List.head_eq_of_cons_eq (List.tail_eq_of_cons_eq e))
    have e3 : i = j := by omega
    subst e1 e3
    unfold wantedBy iz
    rw [List.map_map]
    rfl
def tAllWants (ds : List PyData) (r : Rt) : Prop := ∀ (p : Pl) (i : Nat), ds = [planD p, .int (i : Int)] → r = .l ((iz (allW p i)).map PyData.int)
theorem ok_all_wants (D : Df K mg "all_wants" s_all_wants ["plan", "number"]) (B : Bn mg) : Cal P w K mg base 1 "all_wants" (spP K 2 pIdx tAllWants) := by
  have nd := sc_all_wants.nd
  refine calP D sc_all_wants rfl fun f cdv A outer st H E hr => ⟨_, (pss_cons (ps_set (i := 2) nd rfl (Or.inl rfl) (pe_lst pa_nil))
      (pss_cons (ps_set (i := 3) nd rfl (Or.inl rfl) (pe_callTy (Kk.call_list_of (K := K)) (by rfl) B.list (by decide +kernel) (pa_cons (pe_ix (Kk.ix_tup (K := K)) (pe_ix (Kk.ix_tup (K := K)) (pv 0) (pv 1) (fun _ _ => rfl)) pe_int (fun _ _ => rfl)) pa_nil)))
      (pss_cons (ps_while PassesOwn.never (pt_cmpR (Kk.op_neD (K := K) hr.units) (pv 3) (pe_lst pa_nil) (nomark _)) (pss_cons (ps_set (i := 4) nd rfl (Or.inl rfl) (Kk.pe_bm0 (K := K) PySem.F.plainAttrs_list PySem.F.slot_list_pop PySem.F.type_list_pop mt_pop (pv 3)))
      (pss_one (ps_if (pt_cmpR (Kk.op_notIn_seq (K := K)) (pv 4) (pv 2) (by rfl)) (pss_cons (ps_expr (Kk.pe_bm (K := K) PySem.F.plainAttrs_list PySem.F.slot_list_append PySem.F.type_list_append mt_append (pv 2) (pa_cons (pv 4) pa_nil)))
      (pss_one (ps_expr (Kk.pe_bm (K := K) PySem.F.plainAttrs_list PySem.F.slot_list_extend PySem.F.type_list_extend (Kk.mt_extendA (K := K)) (pv 3) (pa_cons (pe_ix (Kk.ix_tup (K := K)) (pe_ix (Kk.ix_tup (K := K)) (pv 0) (pv 4) (fun _ _ => rfl)) pe_int (fun _ _ => rfl)) pa_nil))))) pss_nil))))
      (pss_one (ps_ret (pe_callB (Kk.cr_sortedI (K := K)) (by rfl) B.sorted (by decide +kernel) (pa_cons (pv 2) pa_nil))))))), fun ds hn hp => ?_⟩
  obtain ⟨p, i, rfl, hg, hi⟩ := hp
  have hlen := hg.sound.few
  obtain ⟨s, hs, hat⟩ := atI_plan hi
  have fin : ∀ found : List Nat, Walked p i [] found → ∀ ns : List Int, ns.Perm (iz found) → ns.Pairwise (· ≤ ·) → tAllWants [planD p, .int (i : Int)] (.l (ns.map PyData.int)) := fun found hw ns hp1 hp2 q j e => by
    have e1 : p = q := planD_inj (List.head_eq_of_cons_eq e)
    have e2 : (i : Int) = (j : Int) := PyData.int.inj (List.head_eq_of_cons_eq (List.tail_eq_of_cons_eq e))
    have e3 : i = j := by omega
    subst e1 e3
    obtain ⟨l, rfl, hl⟩ := perm_iz hp1
    have h1 : l.Pairwise (· < ·) := rise_of hp2 (hl.nodup_iff.mpr hw.nd)
    have h2 : iz l = iz (allW p i) := rising_unique (iz_rise h1) (iz_rise allW_rise) fun k => by
      constructor
      · intro hk
        obtain ⟨x, rfl, hx⟩ := iz_ex hk
        exact iz_mem.mpr ((allW_mem hg.sound).mpr (hw.done.mp (hl.mem_iff.mp hx)))
      · intro hk
        obtain ⟨x, rfl, hx⟩ := iz_ex hk
        exact iz_mem.mpr (hl.mem_iff.mpr (hw.done.mpr ((allW_mem hg.sound).mp hx)))
    rw [h2]
  show ExS K _ _ [.pu (planD p), .pu (.int i), .non, .non, .non]
  fail "kr"
  refine ⟨_, _, _, rfl, rfl, hat, ?_⟩
  fail "kr"
  rw [← wantsOf_some hs]
  refine xs_while (fun m δ' => ∃ wait found x4, δ' = [.pu (planD p), .pu (.int i), .ow (RL K (listD found)), .ow (RL K (listD wait)), x4] ∧ Walked p i wait found ∧ m = wait.length + wsum p found ∧ m ≤ 200) ((wantsOf p i).length + wsum p []) ⟨wantsOf p i, [], .non, rfl, .begin, rfl, by have := wsum_le hg.sound []; have := wantsOf_len hg.sound i; omega⟩ ?_
  rintro m _ ⟨wait, found, x4, rfl, hw, rfl, hm⟩
  fail "kr"
  refine ⟨shaped_ints _, ?_⟩
  fail "kr"
  rcases List.eq_nil_or_concat wait with rfl | ⟨w', x, rfl⟩
  · fail "kr"
    intro ns hp1 hp2
    exact rt_l (fin found hw ns hp1 hp2)
  · rw [List.concat_eq_append] at *
    have hx : x < p.length := (hw.wr x (List.mem_append_right _ (List.mem_singleton.mpr rfl))).lt hg.sound
    obtain ⟨sx, hsx, hatx⟩ := atI_plan hx
    refine ifT (by simp [listD, iz]) ?_
    fail "kr"
    rw [List.length_append] at hm
    have hm' : w'.length + 1 + wsum p found ≤ 200 := hm
    have hdl : (listD (w' ++ [x])).dropLast = listD w' := by rw [listD_app]; exact List.dropLast_concat
    have hfl : found.length ≤ 12 := by
      have := nodup_len _ _ hw.nd fun y hy => (hw.fr y hy).lt hg.sound
      omega
    refine ev_pop (ds := listD (w' ++ [x])) (x := .int (x : Int)) rfl (by rw [listD_app, List.length_append]; show (listD w' ++ [PyData.int (x : Int)])[(listD w').length + 1 - 1]? = _; rw [Nat.add_sub_cancel, List.getElem?_append_right (Nat.le_refl _), Nat.sub_self]; rfl) ?_
    rw [hdl]
    fail "kr"
    have key : (if true = true then !decide ((x : Int) ∈ iz found) else decide ((x : Int) ∈ iz found)) = decide (x ∉ found) := by
      rw [if_pos rfl]
      by_cases h : x ∈ found
      · rw [decide_eq_true (iz_mem.mpr h), decide_eq_false (fun z => z h)]
        rfl
      · rw [decide_eq_false (fun z => h (iz_mem.mp z)), decide_eq_true h]
        rfl
    rw [key]
    by_cases hf : x ∈ found
    · refine ifF (decide_eq_false fun z => z hf) ?_
      fail "kr"
      exact ⟨w'.length + wsum p found, by rw [List.length_append]; show _ < w'.length + 1 + _; omega, w', found, _, rfl, hw.old hf, rfl, by omega⟩
    · refine ifT (decide_eq_true hf) ?_
      have hws := wsum_snoc hx hf
      fail "kr"
      refine ⟨by rw [listD_len]; omega, ?_⟩
      fail "kr"
      refine ev_extend (ds0 := listD w') rfl ?_
      fail "kr"
      refine ⟨_, _, _, rfl, rfl, hatx, ?_⟩
      fail "kr"
      refine ⟨_, _, rfl, .inr den_pu, ?_, ?_⟩
      · rw [listD_len, List.length_map, iz_len, ← wantsOf_some hsx]
        omega
      · rw [← wantsOf_some hsx]
        refine ⟨(w' ++ wantsOf p x).length + wsum p (found ++ [x]), ?_, w' ++ wantsOf p x, found ++ [x], .pu (.int (x : Int)), ?_, hw.new hf, rfl, ?_⟩
        · rw [List.length_append, List.length_append]
          show _ < w'.length + 1 + _
          omega
        · rw [listD_app, listD_app]
          rfl
        · rw [List.length_append]
          omega
end
end Kr

namespace Kr
open PySem PySem.Spec PyProof.Rows L2 Dl
open Evl (Ex)
section
variable {P : Program} {w : World} {K : PySem.W.Frag} {mg : Str → Option Value} {base : Heap}
def pWait (ds : List PyData) : Prop := ∃ (s : Svc) (n : Nat), ds = [svcD s, .int (n : Int)] ∧ n ≤ 1000 ∧ 0 ≤ s.waits ∧ s.waits ≤ 600
def tWait (ds : List PyData) (r : Rt) : Prop := ∀ (s : Svc) (n : Nat), ds = [svcD s, .int (n : Int)] → r = .d (.int (waitF s.waits (n - 1)))
theorem svcD_inj {a b : Svc} (h : svcD a = svcD b) : a = b := by
  have : [a] = [b] := planD_inj (p := [a]) (q := [b]) (by unfold planD; rw [List.map_cons, List.map_cons, h])
  exact List.head_eq_of_cons_eq this
theorem ok_wait_of (D : Df K mg "wait_of" s_wait_of ["service", "falls"]) (B : Bn mg) (hW : Cst K mg "MOST_WAIT" (.int 600)) : Cal P w K mg base 1 "wait_of" (spP K 2 pWait tWait) := by
  have nd := sc_wait_of.nd
  obtain ⟨vW, uW, hmW, rW, dW⟩ := hW.ex
  have g_MOST_WAIT : ∃ u, mg "MOST_WAIT" = some u ∧ RelV vW u := ⟨uW, hmW, rW⟩
  refine calP D sc_wait_of rfl fun f cdv A outer st H E hr => ⟨_, (pss_cons (ps_set (i := 2) nd rfl (Or.inl rfl) (pe_ix (Kk.ix_tup (K := K)) (pv 0) pe_int (fun _ _ => rfl)))
      (pss_cons (ps_for PassesOwn.never rfl (pi_range1 (by rfl) B.range (pa_cons (pe_op op_sub (pv 1) pe_int) pa_nil)) (pg_name (i := 3) nd rfl (Or.inl rfl)) (pss_one (ps_set (i := 2) nd rfl (Or.inl rfl) (pe_callB (call_min2 rfl) (by rfl) B.min (by decide +kernel) (pa_cons (C8.pe_gc (by rfl) g_MOST_WAIT) (pa_cons (pe_op op_mul pe_int (pv 2)) pa_nil))))))
      (pss_one (ps_ret (pv 2))))), fun ds hn hp => ?_⟩
  obtain ⟨s, n, rfl, hn, h0, h6⟩ := hp
  show ExS K _ _ [.pu (svcD s), .pu (.int n), .non, .non]
  fail "kr"
  refine xs_forR1 ?_
  fail "kr"
  refine ⟨by omega, by omega, fun i δ' => ∃ x3, δ' = [.pu (svcD s), .pu (.int n), .pu (.int (waitF s.waits i)), x3], ⟨_, rfl⟩, fun i δ' hi => ?_, fun δ' => ?_⟩
  · rintro ⟨x3, rfl⟩
    refine turn1_name (Nat.le_of_ble_eq_true rfl) ?_
    fail "kr"
    refine ev_cb2I (g := fun i j => if j < i then j else i) ?_
    fail "kr"
    refine ⟨.inl (by decide), ?_⟩
    fail "kr"
    refine ⟨.pu (.int i), ?_⟩
    have e : (if 2 * waitF s.waits i < 600 then 2 * waitF s.waits i else 600) = waitF s.waits (i + 1) := by
      show _ = min 600 (2 * waitF s.waits i)
      split <;> omega
    rw [e]
    rfl
  · rintro ⟨x3, rfl⟩
    fail "kr"
    refine rt_d fun t m e => ?_
    have e1 : s = t := svcD_inj (List.head_eq_of_cons_eq e)
    have e2 : (n : Int) = (m : Int) := PyData.int.inj (List.head_eq_of_cons_eq (List.tail_eq_of_cons_eq e))
    have e3 : n = m := by omega
    subst e1 e3
    rw [show ((n : Int) - 1).toNat = n - 1 by omega]
end
end Kr

namespace Kr
open PySem PySem.Spec PyProof.Rows L2 Dl
open Evl (Ex)
structure KC (K : PySem.W.Frag) (mg : Str → Option Value) : Prop where
  OFF : ∃ u, mg "OFF" = some u ∧ RelV (.str Wd.off.s) u
  BEGINS : ∃ u, mg "BEGINS" = some u ∧ RelV (.str Wd.begins.s) u
  UP : ∃ u, mg "UP" = some u ∧ RelV (.str Wd.up.s) u
  ENDS : ∃ u, mg "ENDS" = some u ∧ RelV (.str Wd.ends.s) u
  AGAIN : ∃ u, mg "AGAIN" = some u ∧ RelV (.str Wd.again.s) u
  GIVEN : ∃ u, mg "GIVEN" = some u ∧ RelV (.str Wd.given.s) u
  RUNNING : Cst K mg "RUNNING" (.tuple [.str Wd.begins.s, .str Wd.up.s, .str Wd.ends.s])
section
variable {K : PySem.W.Frag} {CK CS : Addr} {δ : List Slot} {te : TE} {Φ : Slot → List Slot → Prop} {d : Dn} {i : SvI}
theorem ev_eqK {ta tb : TE} (h : EvS K ta δ fun s1 δ1 => EvS K tb δ1 fun s2 δ2 => (∃ a b : Wd, s1 = .pu (.str a.s) ∧ s2 = .pu (.str b.s) ∧ Φ (.pu (.bool (decide (a = b)))) δ2) ∨ (∃ i j : Int, s1 = .pu (.int i) ∧ s2 = .pu (.int j) ∧ Φ (.pu (.bool (decide (i = j)))) δ2)) : EvS K (tOp rEq ta tb) δ Φ :=
  ev_eqX (h.imp fun s1 δ1 h1 => h1.imp fun s2 δ2 h2 => by
    rcases h2 with ⟨a, b, e1, e2, q⟩ | h2
    · exact .inr (.inl ⟨_, _, e1, e2, by rw [Wd.dec]; exact q⟩)
    · exact .inl h2)
theorem ev_neK {ta tb : TE} (h : EvS K ta δ fun s1 δ1 => EvS K tb δ1 fun s2 δ2 => (∃ a b : Wd, s1 = .pu (.str a.s) ∧ s2 = .pu (.str b.s) ∧ Φ (.pu (.bool (!decide (a = b)))) δ2) ∨ (∃ i j : Int, s1 = .pu (.int i) ∧ s2 = .pu (.int j) ∧ Φ (.pu (.bool (!decide (i = j)))) δ2)) : EvS K (tOp rNe ta tb) δ Φ :=
  ev_neX (h.imp fun s1 δ1 h1 => h1.imp fun s2 δ2 h2 => by
    rcases h2 with ⟨a, b, e1, e2, q⟩ | h2
    · exact .inr (.inl ⟨_, _, e1, e2, by rw [Wd.dec]; exact q⟩)
    · exact .inl h2)
theorem memD_wd (a : Wd) (ws : List Wd) : memD (.str a.s) (ws.map fun w => .str w.s) = decide (a ∈ ws) := by
  have := memD_str (i := a.s) (ns := ws.map Wd.s)
  rw [List.map_map] at this
  rw [show (ws.map fun w => PyData.str w.s) = ws.map (PyData.str ∘ Wd.s) from rfl, this]
  refine decide_eq_decide.mpr ⟨fun h => ?_, fun h => List.mem_map.mpr ⟨a, h, rfl⟩⟩
  obtain ⟨b, hb, e⟩ := List.mem_map.mp h
  rw [← Wd.s_inj.mp e]
  exact hb
theorem ev_inK {ta tb : TE} {neg : Bool} (h : EvS K ta δ fun s1 δ1 => EvS K tb δ1 fun s2 δ2 => (∃ a b c : Wd, s1 = .pu (.str a.s) ∧ s2 = .pu (.tuple [.str b.s, .str c.s]) ∧ Φ (.pu (.bool (if neg then !decide (a ∈ [b, c]) else decide (a ∈ [b, c])))) δ2) ∨ (∃ a b c e : Wd, s1 = .pu (.str a.s) ∧ s2 = .pu (.tuple [.str b.s, .str c.s, .str e.s]) ∧ Φ (.pu (.bool (if neg then !decide (a ∈ [b, c, e]) else decide (a ∈ [b, c, e])))) δ2) ∨ (∃ (i : Nat) (ns : List Nat), s1 = .pu (.int (i : Int)) ∧ (den K δ2 s2 (.list (listD ns)) ∨ den K δ2 s2 (.tuple (listD ns))) ∧ Φ (.pu (.bool (if neg then !decide (i ∈ ns) else decide (i ∈ ns)))) δ2)) : EvS K (tOp (rIn K neg) ta tb) δ Φ :=
  ev_inX (h.imp fun s1 δ1 h1 => h1.imp fun s2 δ2 h2 => by
    rcases h2 with ⟨a, b, c, e1, e2, q⟩ | ⟨a, b, c, e, e1, e2, q⟩ | ⟨i, ns, e1, e2, q⟩
    · refine .inr (.inr ⟨_, _, e1, .inr (e2 ▸ den_pu), rfl, rfl, ?_⟩)
      rw [show [PyData.str b.s, .str c.s] = [b, c].map (fun w => PyData.str w.s) from rfl, memD_wd]
      exact q
    · refine .inr (.inr ⟨_, _, e1, .inr (e2 ▸ den_pu), rfl, rfl, ?_⟩)
      rw [show [PyData.str b.s, .str c.s, .str e.s] = [b, c, e].map (fun w => PyData.str w.s) from rfl, memD_wd]
      exact q
    · refine .inl ⟨(i : Int), iz ns, e1, e2, ?_⟩
      rw [show decide ((i : Int) ∈ iz ns) = decide (i ∈ ns) from decide_eq_decide.mpr iz_mem]
      exact q)
theorem evq_word (T : KTxt K CK CS) (h0 : δ[0]? = some (.ow (RSv K CS i))) (h : Φ (.pu (.str i.r.word.s)) δ) : EvS K (tFld K (tVar 0) "word") δ Φ := ev_fldD (ev_al h0 ⟨0, _, i.a, _, ⟨h0, .inr ⟨rfl, rh_at⟩⟩, fld_d (List.mem_cons_self ..) rfl T.clS T.s2, h⟩)
theorem evq_left (T : KTxt K CK CS) (h0 : δ[0]? = some (.ow (RSv K CS i))) (h : Φ (.pu (.int i.r.left)) δ) : EvS K (tFld K (tVar 0) "left") δ Φ := ev_fldD (ev_al h0 ⟨0, _, i.a, _, ⟨h0, .inr ⟨rfl, rh_at⟩⟩, fld_d (List.mem_cons_self ..) rfl T.clS T.s3, h⟩)
theorem evq_falls (T : KTxt K CK CS) (h0 : δ[0]? = some (.ow (RSv K CS i))) (h : Φ (.pu (.int i.r.falls)) δ) : EvS K (tFld K (tVar 0) "falls") δ Φ := ev_fldD (ev_al h0 ⟨0, _, i.a, _, ⟨h0, .inr ⟨rfl, rh_at⟩⟩, fld_d (List.mem_cons_self ..) rfl T.clS T.s4, h⟩)
theorem evq_plan (T : KTxt K CK CS) (h0 : δ[0]? = some (.ow (RSv K CS i))) (h : Φ (.pu (svcD i.s)) δ) : EvS K (tFld K (tVar 0) "plan") δ Φ := ev_fldD (ev_al h0 ⟨0, _, i.a, _, ⟨h0, .inr ⟨rfl, rh_at⟩⟩, fld_d (List.mem_cons_self ..) rfl T.clS T.s1, h⟩)
theorem put_word {s : Svc} {r : Srv} {w : Wd} : putC "word" (.d (.str w.s)) (srvF s r) = srvF s { r with word := w } := by kernel_rfl
theorem put_left {s : Svc} {r : Srv} {l : Int} : putC "left" (.d (.int l)) (srvF s r) = srvF s { r with left := l } := by kernel_rfl
theorem put_falls {s : Svc} {r : Srv} {l : Int} : putC "falls" (.d (.int l)) (srvF s r) = srvF s { r with falls := l } := by kernel_rfl
theorem rsv_ins {m : Str} (hm : ∀ s r, (srvF s r).lookup m = none) (i : SvI) (v : V) (B H : Hp) (M : Addr → Prop) (h : (RSv K CS i).P v B H M) : v = .ref i.a ∧ ∃ dx fs, H i.a = some (.ins CS dx fs) ∧ fs.lookup m = none := by
  obtain ⟨⟨dx, xs, e1, e2⟩, _⟩ := RH.get (K := K) (cs := [(i.a, Cell.ins CS (srvF i.s i.r))]) h (List.mem_cons_self ..)
  exact ⟨h.1, dx, xs, e1, fsa_none e2 (hm _ _)⟩
theorem lk_put (s : Svc) (r : Srv) : (srvF s r).lookup ("put" : Str) = none := by kernel_rfl
theorem lk_count (s : Svc) (r : Srv) : (srvF s r).lookup ("count" : Str) = none := by kernel_rfl
theorem lk_fall (s : Svc) (r : Srv) : (srvF s r).lookup ("fall" : Str) = none := by kernel_rfl
theorem has_one {a : Addr} {c : Cell} : Has [(a, c)] a c (fun c' => [(a, c')]) := ⟨[], [], rfl, fun _ => rfl⟩
theorem xsq_word (T : KTxt K CK CS) (h : EvD K te δ fun x δ1 => ∃ i w, x = .str (Wd.s w) ∧ δ1[0]? = some (.ow (RSv K CS i)) ∧ d.nx (δ1.set 0 (.ow (RSv K CS ⟨i.a, i.s, { i.r with word := w }⟩)))) : ExS K (sFld K (tVar 0) te "word") d δ :=
  xs_fldD fun B H σ F Q S k => h B H σ F Q S fun v x B2 H2 δ2 e f' S2 hd ⟨i, w, ex, h0, q⟩ => k v x B2 H2 δ2 e f' S2 hd (ev_al h0 ⟨0, _, _, i.a, ⟨h0, .inr ⟨rfl, rh_at⟩⟩, put_d has_one T.clS T.s2 (by show 4 < 1000; decide), by
    rw [ex, put_word]
    exact q⟩)
theorem xsq_left (T : KTxt K CK CS) (h : EvD K te δ fun x δ1 => ∃ i l, x = .int l ∧ δ1[0]? = some (.ow (RSv K CS i)) ∧ d.nx (δ1.set 0 (.ow (RSv K CS ⟨i.a, i.s, { i.r with left := l }⟩)))) : ExS K (sFld K (tVar 0) te "left") d δ :=
  xs_fldD fun B H σ F Q S k => h B H σ F Q S fun v x B2 H2 δ2 e f' S2 hd ⟨i, w, ex, h0, q⟩ => k v x B2 H2 δ2 e f' S2 hd (ev_al h0 ⟨0, _, _, i.a, ⟨h0, .inr ⟨rfl, rh_at⟩⟩, put_d has_one T.clS T.s3 (by show 4 < 1000; decide), by
    rw [ex, put_left]
    exact q⟩)
theorem xsq_falls (T : KTxt K CK CS) (h : EvD K te δ fun x δ1 => ∃ i l, x = .int l ∧ δ1[0]? = some (.ow (RSv K CS i)) ∧ d.nx (δ1.set 0 (.ow (RSv K CS ⟨i.a, i.s, { i.r with falls := l }⟩)))) : ExS K (sFld K (tVar 0) te "falls") d δ :=
  xs_fldD fun B H σ F Q S k => h B H σ F Q S fun v x B2 H2 δ2 e f' S2 hd ⟨i, w, ex, h0, q⟩ => k v x B2 H2 δ2 e f' S2 hd (ev_al h0 ⟨0, _, _, i.a, ⟨h0, .inr ⟨rfl, rh_at⟩⟩, put_d has_one T.clS T.s4 (by show 4 < 1000; decide), by
    rw [ex, put_falls]
    exact q⟩)
end
end Kr
local macro_rules | `(tactic| fail "kkF") => `(tactic| first
  | with_reducible refine Kr.evq_word (by assumption) rfl ?_
  | with_reducible refine Kr.evq_left (by assumption) rfl ?_
  | with_reducible refine Kr.evq_falls (by assumption) rfl ?_
  | with_reducible refine Kr.evq_plan (by assumption) rfl ?_
  | with_reducible refine Kr.evk_plan (by assumption) rfl ?_
  | with_reducible refine Kr.evk_beats (by assumption) rfl ?_
  | with_reducible refine Kr.evk_services (by assumption) rfl ?_
  | with_reducible refine Kr.evk_goals (by assumption) rfl ?_
  | with_reducible refine Kr.evk_rows (by assumption) rfl ?_
  | with_reducible refine Kr.evs_word (by assumption) ?_
  | with_reducible refine Kr.evs_left (by assumption) ?_
  | with_reducible refine Kr.evs_falls (by assumption) ?_
  | with_reducible refine Kr.evs_plan (by assumption) ?_)
local macro_rules | `(tactic| fail "kkG") => `(tactic| first
  | with_reducible refine Kr.xsq_word (by assumption) ?_
  | with_reducible refine Kr.xsq_left (by assumption) ?_
  | with_reducible refine Kr.xsq_falls (by assumption) ?_
  | with_reducible refine Kr.xsk_beats (by assumption) ?_
  | with_reducible refine Kr.xsk_goals (by assumption) ?_)
local macro_rules | `(tactic| fail "kkR") => `(tactic| first
  | (refine ⟨Sum.inr _, rfl, ?_⟩)
  | (refine ⟨show List.length _ ≤ 15 from Nat.le_of_ble_eq_true rfl, ?_⟩)
  | (refine ⟨Sum.inl _, rfl, ?_⟩)
  | (refine ⟨_, _, _, _, _, ⟨rfl, rfl, (show _ = some _ from by assumption), (show _ = some _ from by assumption), (show _ = some _ from by assumption)⟩, ?_⟩)
  | (refine ⟨_, _, _, rfl, rfl, rfl, (show _ = some _ from by assumption), ?_⟩)
  | (refine ⟨_, Dl.den_ref (i := 0) rfl Kr.shk_goals, ?_⟩)
  | (refine ⟨_, Dl.den_ref (i := 0) rfl Kr.shk_rows, ?_⟩)
  | (refine ⟨_, Or.inl (Dl.den_ref (i := 0) rfl Kr.shk_goals), ?_⟩)
  | (refine ⟨_, Or.inl (Dl.den_ref (i := 0) rfl Kr.shk_rows), ?_⟩)
  | (refine Or.inl ⟨_, _, rfl, Or.inl (Dl.den_ref (i := 0) rfl Kr.shk_goals), ?_⟩)
  | (refine Or.inl ⟨_, _, _, rfl, rfl, ?_⟩)
  | (refine Or.inr (Or.inl ⟨_, _, _, _, rfl, rfl, ?_⟩))
  | (refine Or.inr (Or.inr ⟨_, _, rfl, Or.inl (Dl.den_ref (i := 0) rfl Kr.shk_goals), ?_⟩))
  | (refine Or.inr (Or.inr ⟨_, _, rfl, Or.inl (Dl.den_al rfl), ?_⟩))
  | (refine Or.inr (Or.inr ⟨_, _, rfl, Or.inl Dl.den_pu, ?_⟩))
  | (refine Or.inr (Or.inr ⟨_, _, rfl, Or.inl Dl.den_ow, ?_⟩))
  | (refine Or.inr ⟨_, _, rfl, rfl, ?_⟩))
local macro_rules | `(tactic| fail "kk1") => `(tactic| first
  | fail "krn"
  | ((with_reducible show Dl.EvS _ (L2.tVar _) _ _); first | with_reducible refine Dl.ev_pu rfl ?_ | with_reducible refine Dl.ev_alR rfl ?_ | with_reducible refine Dl.ev_al rfl ?_)
  | ((with_reducible show Dl.EvS _ (L2.tC _) _ _); fail "krC")
  | ((with_reducible show Dl.EvS _ (L2.tFld _ _ _) _ _); fail "kkF")
  | ((with_reducible show Dl.EvS _ (L2.tOp L2.rEq _ _) _ _); with_reducible refine Kr.ev_eqK ?_)
  | ((with_reducible show Dl.EvS _ (L2.tOp L2.rNe _ _) _ _); with_reducible refine Kr.ev_neK ?_)
  | ((with_reducible show Dl.EvS _ (L2.tOp (L2.rIn _ _) _ _) _ _); with_reducible refine Kr.ev_inK ?_)
  | ((with_reducible show Dl.EvS _ (L2.tOp (L2.rIxL _) _ _) _ _); with_reducible refine Kr.evk_ix (by assumption) rfl ?_ rfl)
  | ((with_reducible show Dl.EvS _ (L2.tDGet _ _) _ _); with_reducible refine Dl.ev_xget ?_)
  | ((with_reducible show Dl.EvS _ (L2.tDisp _) _ _); with_reducible refine Dl.ev_disp ?_)
  | ((with_reducible show Dl.EvS _ (L2.tBM _ _ _ _ _) _ _); first | with_reducible refine Kr.evk_appG (by assumption) rfl ?_ | with_reducible refine Kr.evk_appL (by assumption) rfl ?_)
  | ((with_reducible show Dl.EvS _ (L2.tCB _ _) _ _); with_reducible refine Dl.ev_sortedSetJ ?_)
  | ((with_reducible show Dl.EvPs _ _ _ _); first | with_reducible refine Dl.ep_cons ?_ | with_reducible refine Dl.ep_nil ?_)
  | ((with_reducible show Dl.ExS _ (L2.sFld _ _ _ _) _ _); fail "kkG")
  | ((with_reducible show Exists _); fail "kkR")
  | ((with_reducible show Or _ _); fail "kkR")
  | ((with_reducible show And _ _); fail "kkR")
  | fail "kr1")
local macro_rules | `(tactic| fail "kk") => `(tactic| repeat fail "kk1")
local macro_rules | `(tactic| fail "kl1") => `(tactic| first
  | fail "krn"
  | ((with_reducible show Dl.EvS _ (L2.tVar _) _ _); first | with_reducible refine Dl.ev_pu rfl ?_ | with_reducible refine Dl.ev_alR rfl ?_ | with_reducible refine Dl.ev_al rfl ?_)
  | ((with_reducible show Dl.EvS _ (L2.tDGet _ _) _ _); with_reducible refine Dl.ev_xget ?_)
  | ((with_reducible show Dl.EvS _ (L2.tDisp _) _ _); with_reducible refine Dl.ev_disp ?_)
  | ((with_reducible show Dl.EvS _ (L2.tBM _ _ (Rk.rCntS _) _ _) _ _); with_reducible refine Dl.ev_countS ?_)
  | ((with_reducible show Dl.EvS _ (Rk.tMaxV _) _ _); with_reducible refine Dl.ev_maxV ?_)
  | ((with_reducible show Dl.EvS _ (L2.tOp L2.rNotB _ _) _ _); with_reducible refine Dl.ev_notB ?_)
  | ((with_reducible show Dl.EvS _ (L2.tOp L2.rIsB _ _) _ _); with_reducible refine Dl.ev_isB ?_)
  | ((with_reducible show Dl.EvPs _ _ _ _); first | with_reducible refine Dl.ep_cons ?_ | with_reducible refine Dl.ep_nil ?_)
  | ((with_reducible show Dl.ExS _ (L2.tPar _ _ _) _ _); with_reducible refine Dl.xs_par ?_)
  | ((with_reducible show Dl.ExS _ (L2.sDPut _ _ _) _ _); with_reducible refine Dl.xs_xput ?_)
  | ((with_reducible show Exists _); first | (refine ⟨Sum.inr _, rfl, ?_⟩) | (refine ⟨Sum.inl _, rfl, ?_⟩))
  | ((with_reducible show And _ _); (refine ⟨show List.length _ ≤ 15 from Nat.le_of_ble_eq_true rfl, ?_⟩))
  | fail "kr1")
local macro_rules | `(tactic| fail "kl") => `(tactic| repeat fail "kl1")
namespace Kr
open PySem PySem.Spec PyProof.Rows L2 Dl
open Evl (Ex)
section
variable {P : Program} {w : World} {K : PySem.W.Frag} {mg : Str → Option Value} {base : Heap} {CK CS : Addr}
/-! ### a service's methods -/
theorem endS {i : SvI} {r : Srv} : EndR SvI.a (RSv K CS) i ⟨i.a, i.s, r⟩ (RSv K CS ⟨i.a, i.s, r⟩) := ⟨rfl, fun v B H M h => ⟨h.1, h⟩⟩
def pPut (_ : SvI) (ds : List PyData) : Prop := ∃ (w : Wd) (l : Int), ds = [.str w.s, .int l]
def tPut (i : SvI) (ds : List PyData) (i' : SvI) (s : Slot) : Prop := i'.s = i.s ∧ ∀ (w : Wd) (l : Int), ds = [.str w.s, .int l] → i' = ⟨i.a, i.s, ⟨w, l, i.r.falls⟩⟩ ∧ s = .pu .none
theorem ok_put (D : DfM K CS "put" "Service.put" s_Service_put ["self", "word", "left"]) (T : KTxt K CK CS) : Dl.Met P w K mg base 1 CS "put" (spM K SvI.a (RSv K CS) 2 pPut tPut) := by
  have nd := sc_Service_put.nd
  refine metM D sc_Service_put rfl fun f cdv A outer st H E hr => ⟨_, (pss_cons (Kk.ps_fld (K := K) (pv 0) (pv 1) rfl)
      (pss_one (Kk.ps_fld (K := K) (pv 0) (pv 2) rfl))), fun i ds hn hp => ?_⟩
  obtain ⟨w, l, rfl⟩ := hp
  show ExS K _ _ [.ow (RSv K CS i), .pu (.str w.s), .pu (.int l)]
  fail "kk"
  refine ⟨_, _, rfl, endS, rfl, fun w' l' e => ?_⟩
  simp only [List.cons.injEq, PyData.str.injEq, PyData.int.injEq, and_true] at e
  obtain ⟨e1, e2⟩ := e
  cases Wd.s_inj.mp e1
  cases e2
  exact ⟨rfl, rfl⟩
def optD : Option Lw → PyData
  | none => .none
  | some w => .str w.s
def pCount (_ : SvI) (ds : List PyData) : Prop := ds = []
def tCount (i : SvI) (_ : List PyData) (i' : SvI) (s : Slot) : Prop := i'.s = i.s ∧ i' = ⟨i.a, i.s, (countS i.s i.r).1⟩ ∧ s = .pu (optD (countS i.s i.r).2)
theorem ok_count (D : DfM K CS "count" "Service.count" s_Service_count ["self"]) (T : KTxt K CK CS) (C : KC K mg) (m_Service_put : Dl.Met P w K mg base 1 CS "put" (spM K SvI.a (RSv K CS) 2 pPut tPut)) : Dl.Met P w K mg base 2 CS "count" (spM K SvI.a (RSv K CS) 0 pCount tCount) := by
  have nd := sc_Service_count.nd
  have g_OFF := C.OFF
  have g_UP := C.UP
  have g_BEGINS := C.BEGINS
  have g_ENDS := C.ENDS
  have g_AGAIN := C.AGAIN
  have g_GIVEN := C.GIVEN
  refine metM D sc_Service_count rfl fun f cdv A outer st H E hr => ⟨_, (pss_cons (ps_if (pt_cmpR op_eq (Kk.pe_fld (K := K) (pv 0) rfl) (C8.pe_gc (by rfl) g_UP) (nomark _)) (pss_cons (Kk.ps_fld (K := K) (pv 0) (pe_op op_add (Kk.pe_fld (K := K) (pv 0) rfl) pe_int) rfl)
      (pss_cons (ps_if (pt_cmpR op_eq (Kk.pe_fld (K := K) (pv 0) rfl) (pe_ix (Kk.ix_tup (K := K)) (Kk.pe_fld (K := K) (pv 0) rfl) pe_int (fun _ _ => rfl)) (nomark _)) (pss_one (Kk.ps_fld (K := K) (pv 0) pe_int rfl)) pss_nil)
      (pss_one (ps_ret pe_non)))) pss_nil)
      (pss_cons (ps_if (pt_cmpR (Kk.op_in_seq (K := K)) (Kk.pe_fld (K := K) (pv 0) rfl) (pe_tup (pa_cons (C8.pe_gc (by rfl) g_OFF) (pa_cons (C8.pe_gc (by rfl) g_GIVEN) pa_nil))) (by rfl)) (pss_one (ps_ret pe_non)) pss_nil)
      (pss_cons (Kk.ps_fld (K := K) (pv 0) (pe_op op_sub (Kk.pe_fld (K := K) (pv 0) rfl) pe_int) rfl)
      (pss_cons (ps_if (pt_cmpR op_gt (Kk.pe_fld (K := K) (pv 0) rfl) pe_int (nomark _)) (pss_one (ps_ret pe_non)) pss_nil)
      (pss_cons (ps_set (i := 1) nd rfl (Or.inl rfl) (pe_dget (Kk.hu hr) (pe_disp (pps_cons (C8.pe_gc (by rfl) g_BEGINS) (C8.pe_gc (by rfl) g_UP) (pps_cons (C8.pe_gc (by rfl) g_ENDS) (C8.pe_gc (by rfl) g_OFF) (pps_cons (C8.pe_gc (by rfl) g_AGAIN) pe_non pps_nil))) rfl rfl (fun h => nomatch h) (Nat.le_of_ble_eq_true rfl)) (Kk.pe_fld (K := K) (pv 0) rfl) (fun _ _ => rfl)))
      (pss_cons (ps_expr (Dl.pe_m m_Service_put hr (pv 0) (pa_cons (pe_ifExp (pt_cmpR op_eq (Kk.pe_fld (K := K) (pv 0) rfl) (C8.pe_gc (by rfl) g_BEGINS) (nomark _)) (C8.pe_gc (by rfl) g_UP) (C8.pe_gc (by rfl) g_OFF)) (pa_cons pe_int pa_nil))))
      (pss_one (ps_ret (pv 1))))))))), fun i ds hn hp => ?_⟩
  cases (show ds = [] from hp)
  show ExS K _ _ [.ow (RSv K CS i), .non]
  obtain ⟨a, s, ⟨wd, l, fl⟩⟩ := i
  have fin : ∀ (x : Slot) (r : Srv) (o : Option Lw), countS s ⟨wd, l, fl⟩ = (r, o) → ∃ i' R2, ([Slot.ow (RSv K CS ⟨a, s, r⟩), x] : List Slot)[0]? = some (.ow R2) ∧ EndR SvI.a (RSv K CS) ⟨a, s, ⟨wd, l, fl⟩⟩ i' R2 ∧ RtG (tCount ⟨a, s, ⟨wd, l, fl⟩⟩ [] i') (.pu (optD o)) [Slot.ow (RSv K CS ⟨a, s, r⟩), x] := fun x r o e => ⟨_, _, rfl, endS (i := ⟨a, s, ⟨wd, l, fl⟩⟩), .inl ⟨_, rfl, rfl, by rw [e], by rw [e]⟩⟩
  fail "kk"
  cases wd
  · fail "kk"
    exact fin _ _ none rfl
  · fail "kk"
    refine ifB (fun h => ?_) (fun h => ?_)
    · fail "kk"
      exact fin _ _ none (if_pos (of_decide_eq_true h))
    · fail "kk"
      refine ⟨_, Sum.inr _, .str Wd.up.s, .inl rfl, rfl, by kernel_rfl, ?_⟩
      fail "kk"
      refine ev_methW (rsv_ins lk_put) ⟨_, rfl, ?_⟩
      fail "kk"
      refine ⟨rfl, ⟨.up, 0, rfl⟩, fun i' s' _ hT => ?_⟩
      obtain ⟨rfl, rfl⟩ := hT.2 .up 0 rfl
      fail "kk"
      exact fin _ _ (some .up) (if_neg (of_decide_eq_false h))
  · fail "kk"
    refine ifB (fun h => ?_) (fun h => ?_)
    · fail "kk"
      exact fin _ _ none (by unfold countS; rw [if_pos (of_decide_eq_true h)])
    · fail "kk"
      exact fin _ _ none (by unfold countS; rw [if_neg (of_decide_eq_false h)])
  · fail "kk"
    refine ifB (fun h => ?_) (fun h => ?_)
    · fail "kk"
      exact fin _ _ none (if_pos (of_decide_eq_true h))
    · fail "kk"
      refine ⟨_, Sum.inr _, .str Wd.off.s, .inl rfl, rfl, by kernel_rfl, ?_⟩
      fail "kk"
      refine ev_methW (rsv_ins lk_put) ⟨_, rfl, ?_⟩
      fail "kk"
      refine ⟨rfl, ⟨.off, 0, rfl⟩, fun i' s' _ hT => ?_⟩
      obtain ⟨rfl, rfl⟩ := hT.2 .off 0 rfl
      fail "kk"
      exact fin _ _ (some .off) (if_neg (of_decide_eq_false h))
  · fail "kk"
    refine ifB (fun h => ?_) (fun h => ?_)
    · fail "kk"
      exact fin _ _ none (if_pos (of_decide_eq_true h))
    · fail "kk"
      refine ⟨_, Sum.inr _, .none, .inl rfl, rfl, by kernel_rfl, ?_⟩
      fail "kk"
      refine ev_methW (rsv_ins lk_put) ⟨_, rfl, ?_⟩
      fail "kk"
      refine ⟨rfl, ⟨.off, 0, rfl⟩, fun i' s' _ hT => ?_⟩
      obtain ⟨rfl, rfl⟩ := hT.2 .off 0 rfl
      fail "kk"
      exact fin _ _ none (if_neg (of_decide_eq_false h))
  · fail "kk"
    exact fin _ _ none rfl
def pFallS (i : SvI) (ds : List PyData) : Prop := ds = [] ∧ 0 ≤ i.r.falls ∧ i.r.falls ≤ 9 ∧ 0 ≤ i.s.waits ∧ i.s.waits ≤ 600
def tFallS (i : SvI) (_ : List PyData) (i' : SvI) (s : Slot) : Prop := i'.s = i.s ∧ i' = ⟨i.a, i.s, fallS i.s i.r⟩ ∧ s = .pu .none
theorem ok_falls (D : DfM K CS "fall" "Service.fall" s_Service_fall ["self"]) (T : KTxt K CK CS) (C : KC K mg) (m_Service_put : Dl.Met P w K mg base 1 CS "put" (spM K SvI.a (RSv K CS) 2 pPut tPut)) (c_wait_of : Cal P w K mg base 1 "wait_of" (spP K 2 pWait tWait)) : Dl.Met P w K mg base 2 CS "fall" (spM K SvI.a (RSv K CS) 0 pFallS tFallS) := by
  have nd := sc_Service_fall.nd
  have g_OFF := C.OFF
  have g_ENDS := C.ENDS
  have g_AGAIN := C.AGAIN
  have g_GIVEN := C.GIVEN
  refine metM D sc_Service_fall rfl fun f cdv A outer st H E hr => ⟨_, (pss_cons (ps_if (pt_cmpR op_eq (Kk.pe_fld (K := K) (pv 0) rfl) (C8.pe_gc (by rfl) g_ENDS) (nomark _)) (pss_cons (ps_expr (Dl.pe_m m_Service_put hr (pv 0) (pa_cons (C8.pe_gc (by rfl) g_OFF) (pa_cons pe_int pa_nil))))
      (pss_one ps_retN)) pss_nil)
      (pss_cons (Kk.ps_fld (K := K) (pv 0) (pe_op op_add (Kk.pe_fld (K := K) (pv 0) rfl) pe_int) rfl)
      (pss_one (ps_if (pt_cmpR op_ge (Kk.pe_fld (K := K) (pv 0) rfl) (pe_ix (Kk.ix_tup (K := K)) (Kk.pe_fld (K := K) (pv 0) rfl) pe_int (fun _ _ => rfl)) (nomark _)) (pss_one (ps_expr (Dl.pe_m m_Service_put hr (pv 0) (pa_cons (C8.pe_gc (by rfl) g_GIVEN) (pa_cons pe_int pa_nil))))) (pss_one (ps_expr (Dl.pe_m m_Service_put hr (pv 0) (pa_cons (C8.pe_gc (by rfl) g_AGAIN) (pa_cons (Dl.pe_c c_wait_of hr (pa_cons (Kk.pe_fld (K := K) (pv 0) rfl) (pa_cons (Kk.pe_fld (K := K) (pv 0) rfl) pa_nil))) pa_nil))))))))), fun i ds hn hp => ?_⟩
  obtain ⟨rfl, hf0, hf9, hw0, hw6⟩ := hp
  show ExS K _ _ [.ow (RSv K CS i)]
  obtain ⟨a, s, ⟨wd, l, fl⟩⟩ := i
  have hf0 : 0 ≤ fl := hf0
  have hf9 : fl ≤ 9 := hf9
  have fin : ∀ (r : Srv), fallS s ⟨wd, l, fl⟩ = r → ∃ i' R2, ([Slot.ow (RSv K CS ⟨a, s, r⟩)] : List Slot)[0]? = some (.ow R2) ∧ EndR SvI.a (RSv K CS) ⟨a, s, ⟨wd, l, fl⟩⟩ i' R2 ∧ tFallS ⟨a, s, ⟨wd, l, fl⟩⟩ [] i' (.pu .none) := fun r e => ⟨_, _, rfl, endS (i := ⟨a, s, ⟨wd, l, fl⟩⟩), rfl, by rw [e], rfl⟩
  fail "kk"
  refine ifB (fun h => ?_) (fun h => ?_)
  · fail "kk"
    refine ev_methW (rsv_ins lk_put) ⟨_, rfl, ?_⟩
    fail "kk"
    refine ⟨rfl, ⟨.off, 0, rfl⟩, fun i' s' _ hT => ?_⟩
    obtain ⟨rfl, rfl⟩ := hT.2 .off 0 rfl
    fail "kk"
    obtain ⟨i', R2, h1, h2, h3⟩ := fin _ (if_pos (of_decide_eq_true h))
    exact ⟨i', R2, h1, h2, .inl ⟨_, rfl, h3⟩⟩
  · have hne : ¬ wd = .ends := of_decide_eq_false h
    fail "kk"
    refine ifB (fun h2 => ?_) (fun h2 => ?_)
    · fail "kk"
      refine ev_methW (rsv_ins lk_put) ⟨_, rfl, ?_⟩
      fail "kk"
      refine ⟨rfl, ⟨.given, 0, rfl⟩, fun i' s' _ hT => ?_⟩
      obtain ⟨rfl, rfl⟩ := hT.2 .given 0 rfl
      fail "kk"
      exact fin _ (by unfold fallS; rw [if_neg hne, if_pos (of_decide_eq_true h2)])
    · fail "kk"
      refine ev_methW (rsv_ins lk_put) ⟨_, rfl, ?_⟩
      fail "kk"
      refine ev_call ?_
      fail "kk"
      refine ⟨rfl, ⟨s, (fl + 1).toNat, by rw [Int.toNat_of_nonneg (by show 0 ≤ fl + 1; omega)], by show (fl + 1).toNat ≤ _; omega, hw0, hw6⟩, fun r hr => ?_⟩
      have e1 := hr s (fl + 1).toNat (by rw [Int.toNat_of_nonneg (by show 0 ≤ fl + 1; omega)])
      subst e1
      fail "kk"
      refine ⟨rfl, ⟨.again, _, rfl⟩, fun i' s' _ hT => ?_⟩
      obtain ⟨rfl, rfl⟩ := hT.2 .again _ rfl
      fail "kk"
      exact fin _ (by
        unfold fallS
        rw [if_neg hne, if_neg (of_decide_eq_false h2), show (fl + 1).toNat - 1 = fl.toNat by omega])
end
end Kr

namespace Kr
open PySem Dl
/-! ### what a beat does, step by step; what stays -/
theorem mapIdx_get {α β : Type} {f : Nat → α → β} {l : List α} {i : Nat} : (l.mapIdx f)[i]? = l[i]?.map (f i) := List.getElem?_mapIdx
theorem countN_zero (p : Pl) (st : Kst) : countN p st 0 = { st with beats := st.beats + 1 } := by
  unfold countN
  congr 1
  · apply List.ext_getElem?
    intro i
    rw [mapIdx_get]
    cases st.srvs[i]? with
    | none => rfl
    | some r => simp
  · simp
theorem countN_get {p : Pl} {st : Kst} {k i : Nat} : (countN p st k).srvs[i]? = st.srvs[i]?.map fun r => if i < k then (countS (svcAt p i) r).1 else r := mapIdx_get
theorem countN_step {p : Pl} {st : Kst} {k : Nat} {s : Svc} {r : Srv} (h2 : p[k]? = some s) (h3 : st.srvs[k]? = some r) :
    (countN p st k).srvs[k]? = some r ∧ ((countS s r).2 = none → countN p st (k + 1) = setSrv (countN p st k) k (countS s r).1) ∧ ∀ w, (countS s r).2 = some w → countN p st (k + 1) = tellK (setSrv (countN p st k) k (countS s r).1) k w := by
  have hs := svcAt_some h2
  have hr := srvAt_some h3
  have h4 : (countN p st k).srvs[k]? = some r := by rw [countN_get, h3]; simp
  have hlt := (List.getElem?_eq_some_iff.mp h4).1
  have hsr : (countN p st (k + 1)).srvs = (countN p st k).srvs.set k (countS s r).1 := by
    apply List.ext_getElem?
    intro i
    by_cases e : i = k
    · subst e
      rw [List.getElem?_set_self hlt, countN_get, h3, hs]
      simp
    · rw [List.getElem?_set_ne (fun z => e z.symm), countN_get, countN_get]
      congr 1
      funext r0
      have : (i < k + 1) ↔ (i < k) := by omega
      by_cases c : i < k
      · rw [if_pos c, if_pos (this.mpr c)]
      · rw [if_neg c, if_neg (fun z => c (this.mp z))]
  refine ⟨h4, fun hn => ?_, fun w hw => ?_⟩
  · have hrow : (countN p st (k + 1)).rows = (countN p st k).rows := by
      show st.rows ++ _ = st.rows ++ _
      rw [List.range_succ, List.filterMap_append]
      have : toldS p st k = none := by unfold toldS; rw [hs, hr, hn]; rfl
      simp [this]
    show Kst.mk _ _ _ _ = Kst.mk _ _ _ _
    congr 1
  · have hrow : (countN p st (k + 1)).rows = (countN p st k).rows ++ [⟨st.beats + 1, k, w⟩] := by
      show st.rows ++ _ = st.rows ++ _ ++ _
      rw [List.range_succ, List.filterMap_append]
      have : toldS p st k = some ⟨st.beats + 1, k, w⟩ := by unfold toldS; rw [hs, hr, hw]; rfl
      simp [this]
    show Kst.mk _ _ _ _ = Kst.mk _ _ _ _
    congr 1
theorem doneN_nil (p : Pl) (st : Kst) : doneN p [] st = st := by
  unfold doneN
  have h1 : st.srvs.mapIdx (doneS p []) = st.srvs := by
    apply List.ext_getElem?
    intro i
    rw [mapIdx_get]
    cases st.srvs[i]? with
    | none => rfl
    | some r => rfl
  rw [h1]
  simp
theorem doneN_get {p : Pl} {ch : List (Nat × Wd)} {st : Kst} {i : Nat} : (doneN p ch st).srvs[i]? = st.srvs[i]?.map (doneS p ch i) := mapIdx_get
theorem doneS_new {p : Pl} {ch : List (Nat × Wd)} {i : Nat} {r : Srv} (h : ∀ x ∈ ch, x.1 ≠ i) : doneS p ch i r = r := by
  unfold doneS
  rw [List.find?_eq_none.mpr fun x hx z => h x hx (of_decide_eq_true z)]
theorem doneN_step {p : Pl} {ch : List (Nat × Wd)} {st : Kst} {i : Nat} {w : Wd} {s : Svc} {r : Srv} (hnew : ∀ x ∈ ch, x.1 ≠ i) (h2 : p[i]? = some s) (h3 : st.srvs[i]? = some r) :
    (doneN p ch st).srvs[i]? = some r ∧ doneN p (ch ++ [(i, w)]) st = { setSrv (doneN p ch st) i (putS s w r) with rows := (doneN p ch st).rows ++ (match rowOf st.beats (i, w) with | some x => [x] | none => []) } := by
  have h4 : (doneN p ch st).srvs[i]? = some r := by rw [doneN_get, h3]; show some (doneS p ch i r) = _; rw [doneS_new hnew]
  have hlt := (List.getElem?_eq_some_iff.mp h4).1
  have hsr : (doneN p (ch ++ [(i, w)]) st).srvs = (doneN p ch st).srvs.set i (putS s w r) := by
    apply List.ext_getElem?
    intro k
    by_cases e : k = i
    · subst e
      rw [List.getElem?_set_self hlt, doneN_get, h3]
      show some (doneS p (ch ++ [(k, w)]) k r) = _
      unfold doneS
      rw [List.find?_append, List.find?_eq_none.mpr fun x hx z => hnew x hx (of_decide_eq_true z)]
      simp [svcAt_some h2]
    · rw [List.getElem?_set_ne (fun z => e z.symm), doneN_get, doneN_get]
      congr 1
      funext r0
      unfold doneS
      have : (ch ++ [(i, w)]).find? (fun x => decide (x.1 = k)) = ch.find? (fun x => decide (x.1 = k)) := by
        rw [List.find?_append]
        have : List.find? (fun x : Nat × Wd => decide (x.1 = k)) [(i, w)] = none := by
          rw [List.find?_eq_none]
          intro x hx z
          rw [List.mem_singleton.mp hx] at z
          exact e (of_decide_eq_true z).symm
        rw [this]
        cases ch.find? (fun x => decide (x.1 = k)) <;> rfl
      rw [this]
  have hrow : (doneN p (ch ++ [(i, w)]) st).rows = (doneN p ch st).rows ++ (match rowOf st.beats (i, w) with | some x => [x] | none => []) := by
    show st.rows ++ _ = st.rows ++ _ ++ _
    rw [List.filterMap_append, ← List.append_assoc]
    congr 1
    cases h : rowOf st.beats (i, w) <;> simp [h]
  refine ⟨h4, ?_⟩
  show Kst.mk _ _ _ _ = Kst.mk _ _ _ _
  congr 1
theorem pickK_word {p : Pl} {st : Kst} {i : Nat} {w : Wd} (h : pickK p st i = some w) : (w = .ends ∧ (wordAt st i = .begins ∨ wordAt st i = .up)) ∨ (w = .begins ∧ wordAt st i = .off) ∨ (w = .off ∧ wordAt st i = .again) := by
  unfold pickK at h
  split at h
  · next c => cases h; exact .inl ⟨rfl, c.1⟩
  · split at h
    · next c => cases h; exact .inr (.inl ⟨rfl, c.1⟩)
    · split at h
      · next c => cases h; exact .inr (.inr ⟨rfl, c.1⟩)
      · cases h
theorem chosenK_mem {p : Pl} {st : Kst} {i : Nat} {w : Wd} : (i, w) ∈ chosenK p st ↔ i < p.length ∧ pickK p st i = some w := by
  unfold chosenK
  rw [List.mem_filterMap]
  constructor
  · rintro ⟨k, hk, e⟩
    cases q : pickK p st k with
    | none => rw [q] at e; cases e
    | some u =>
      rw [q] at e
      cases e
      exact ⟨List.mem_range.mp hk, q⟩
  · rintro ⟨hi, h⟩
    exact ⟨i, List.mem_range.mpr hi, by rw [h]; rfl⟩
theorem chosenK_rise {p : Pl} {st : Kst} : (chosenK p st).Pairwise fun a b => a.1 < b.1 := by
  unfold chosenK
  rw [List.pairwise_filterMap]
  refine List.pairwise_lt_range.imp fun {a b} h x hx y hy => ?_
  cases q : pickK p st a with
  | none => rw [q] at hx; cases hx
  | some u =>
    cases q2 : pickK p st b with
    | none => rw [q2] at hy; cases hy
    | some v =>
      rw [q] at hx
      rw [q2] at hy
      cases hx
      cases hy
      exact h
theorem chosenK_new {p : Pl} {st : Kst} {k i : Nat} {w : Wd} (h : (chosenK p st)[k]? = some (i, w)) : ∀ x ∈ (chosenK p st).take k, x.1 ≠ i := by
  intro x hx e
  obtain ⟨m, hm, ex⟩ := List.mem_iff_getElem.mp hx
  have hk := List.getElem?_eq_some_iff.mp h
  obtain ⟨hkl, ek⟩ := hk
  rw [List.length_take] at hm
  have := List.pairwise_iff_getElem.mp (chosenK_rise (p := p) (st := st)) m k (by omega) hkl (by omega)
  rw [List.getElem_take] at ex
  rw [ex, ek] at this
  exact absurd e (Nat.ne_of_lt this)
theorem find_chosen {p : Pl} {st : Kst} {i : Nat} : (chosenK p st).find? (fun x => decide (x.1 = i)) = if i < p.length then (pickK p st i).map (fun w => (i, w)) else none := by
  cases q : (chosenK p st).find? (fun x => decide (x.1 = i)) with
  | none =>
    rw [List.find?_eq_none] at q
    by_cases h : i < p.length
    · rw [if_pos h]
      cases hp : pickK p st i with
      | none => rfl
      | some w => exact absurd (decide_eq_true rfl) (q (i, w) (chosenK_mem.mpr ⟨h, hp⟩))
    · rw [if_neg h]
  | some x =>
    obtain ⟨k, w⟩ := x
    have h1 := List.mem_of_find?_eq_some q
    have h2 : k = i := of_decide_eq_true (List.find?_some (p := fun (x : Nat × Wd) => decide (x.1 = i)) q)
    subst h2
    obtain ⟨h3, h4⟩ := chosenK_mem.mp h1
    rw [if_pos h3, h4]
    rfl
/-- how a service stands behind the chosen ones -/
theorem done_get {p : Pl} {st : Kst} {i : Nat} {s : Svc} {r : Srv} (h2 : p[i]? = some s) (h3 : st.srvs[i]? = some r) : (doneN p (chosenK p st) st).srvs[i]? = some (match pickK p st i with | some w => putS s w r | none => r) := by
  rw [doneN_get, h3]
  show some (doneS p _ i r) = _
  unfold doneS
  rw [find_chosen, if_pos (List.getElem?_eq_some_iff.mp h2).1]
  cases pickK p st i with
  | none => rfl
  | some w => show some (putS (svcAt p i) w r) = _; rw [svcAt_some h2]
theorem beat_get {p : Pl} {st : Kst} {i : Nat} {s : Svc} {r : Srv} (h2 : p[i]? = some s) (h3 : st.srvs[i]? = some r) : (countK p st).srvs[i]? = some (countS s r).1 ∧ (beatK p st).srvs[i]? = some (match pickK p (countK p st) i with | some w => putS s w (countS s r).1 | none => (countS s r).1) := by
  have h4 : (countK p st).srvs[i]? = some (countS s r).1 := by
    unfold countK
    rw [countN_get, h3]
    show some (if _ then _ else _) = _
    rw [if_pos (List.getElem?_eq_some_iff.mp h2).1, svcAt_some h2]
  exact ⟨h4, done_get h2 h4⟩
/-! what stays -/
theorem countS_word {s : Svc} {r : Srv} : ((countS s r).1.word = .given ↔ r.word = .given) ∧ ((countS s r).1.falls = r.falls ∨ (countS s r).1.falls = 0) := by
  obtain ⟨wd, l, fl⟩ := r
  cases wd
  · exact ⟨⟨(fun h => nomatch h), (fun h => nomatch h)⟩, .inl rfl⟩
  · unfold countS
    dsimp only
    split
    · exact ⟨⟨(fun h => nomatch h), (fun h => nomatch h)⟩, .inl rfl⟩
    · exact ⟨⟨(fun h => nomatch h), (fun h => nomatch h)⟩, .inl rfl⟩
  · refine ⟨⟨(fun h => nomatch h), (fun h => nomatch h)⟩, ?_⟩
    show (if _ then _ else _) = _ ∨ (if _ then _ else _) = _
    split
    · exact .inr rfl
    · exact .inl rfl
  · unfold countS
    dsimp only
    split
    · exact ⟨⟨(fun h => nomatch h), (fun h => nomatch h)⟩, .inl rfl⟩
    · exact ⟨⟨(fun h => nomatch h), (fun h => nomatch h)⟩, .inl rfl⟩
  · unfold countS
    dsimp only
    split
    · exact ⟨⟨(fun h => nomatch h), (fun h => nomatch h)⟩, .inl rfl⟩
    · exact ⟨⟨(fun h => nomatch h), (fun h => nomatch h)⟩, .inl rfl⟩
  · exact ⟨⟨fun _ => rfl, fun _ => rfl⟩, .inl rfl⟩
theorem KOk.count {p : Pl} {st : Kst} (hs : Sound p) (h : KOk p st) (n : Nat) : KOk p (countN p st n) := by
  refine ⟨by show (st.srvs.mapIdx _).length = _; rw [List.length_mapIdx]; exact h.len, h.lt, h.nd, fun i r s hr hp => ?_⟩
  rw [countN_get] at hr
  cases q : st.srvs[i]? with
  | none => rw [q] at hr; cases hr
  | some r0 =>
    rw [q] at hr
    have hr : (if i < n then (countS (svcAt p i) r0).1 else r0) = r := Option.some.inj hr
    have hf := h.falls i r0 s q hp
    have ht := (hs.svc i s hp).tries
    rw [svcAt_some hp] at hr
    split at hr
    · obtain ⟨h1, h2⟩ := countS_word (s := s) (r := r0)
      rw [hr] at h1 h2
      refine ⟨by omega, by omega, fun hn => ?_⟩
      have := hf.2.2 (fun z => hn (h1.mpr z))
      omega
    · rw [← hr]; exact hf
theorem putS_word {s : Svc} {w : Wd} {r : Srv} : (putS s w r).word ≠ .given ∧ (putS s w r).falls = r.falls := by
  cases w <;> exact ⟨(fun h => nomatch h), rfl⟩
theorem KOk.done {p : Pl} {st : Kst} (h : KOk p st) : KOk p (doneN p (chosenK p st) st) := by
  refine ⟨by show (st.srvs.mapIdx _).length = _; rw [List.length_mapIdx]; exact h.len, h.lt, h.nd, fun i r s hr hp => ?_⟩
  have hi : i < st.srvs.length := by rw [h.len]; exact (List.getElem?_eq_some_iff.mp hp).1
  have q : st.srvs[i]? = some st.srvs[i] := List.getElem?_eq_getElem hi
  generalize st.srvs[i] = r0 at q
  rw [done_get hp q] at hr
  have hf := h.falls i r0 s q hp
  cases hk : pickK p st i with
  | none => rw [hk] at hr; cases hr; exact hf
  | some w =>
    rw [hk] at hr
    have hr : putS s w r0 = r := Option.some.inj hr
    obtain ⟨h1, h2⟩ := putS_word (s := s) (w := w) (r := r0)
    rw [hr] at h1 h2
    have hw := pickK_word hk
    rw [wordAt_some q] at hw
    have hg : r0.word ≠ .given := fun z => by
      rw [z] at hw
      rcases hw with ⟨_, h | h⟩ | ⟨_, h⟩ | ⟨_, h⟩ <;> cases h
    have := hf.2.2 hg
    exact ⟨by omega, by omega, fun _ => by omega⟩
theorem KOk.beat {p : Pl} {st : Kst} (hs : Sound p) (h : KOk p st) : KOk p (beatK p st) := (h.count hs p.length).done
theorem KOk.ask {p : Pl} {st : Kst} (hs : Sound p) (h : KOk p st) {i : Nat} (hi : i < p.length) : KOk p (askK p st i) := by
  refine ⟨by show (revive _ _).length = _; unfold revive; rw [List.length_mapIdx]; exact h.len, fun g hg => ?_, ?_, fun k r s hr hp => ?_⟩
  · have hg : g ∈ (if i ∈ st.goals then st.goals else st.goals ++ [i]) := hg
    split at hg
    · exact h.lt g hg
    · rcases List.mem_append.mp hg with hg | hg
      · exact h.lt g hg
      · rw [List.mem_singleton.mp hg]; exact hi
  · show (if i ∈ st.goals then st.goals else st.goals ++ [i]).Nodup
    split
    · exact h.nd
    · next hn =>
      rw [List.nodup_append]
      refine ⟨h.nd, List.nodup_cons.mpr ⟨by simp, List.nodup_nil⟩, fun a ha b hb e => ?_⟩
      rw [List.mem_singleton.mp hb] at e
      exact hn (e ▸ ha)
  · have hr : (revive (i :: allW p i) st.srvs)[k]? = some r := hr
    unfold revive at hr
    rw [mapIdx_get] at hr
    cases q : st.srvs[k]? with
    | none => rw [q] at hr; cases hr
    | some r0 =>
      rw [q] at hr
      have hr : (if k ∈ (i :: allW p i) ∧ r0.word = .given then srv0 else r0) = r := Option.some.inj hr
      have ht := (hs.svc k s hp).tries
      split at hr
      · rw [← hr]
        exact ⟨Int.le_refl _, by show (0 : Int) ≤ _; omega, fun _ => by show (0 : Int) < _; omega⟩
      · rw [← hr]; exact h.falls k r0 s q hp
theorem KOk.leave {p : Pl} {st : Kst} (h : KOk p st) (i : Nat) : KOk p (leaveK st i) :=
  ⟨h.len, fun g hg => h.lt g (List.mem_filter.mp hg).1, h.nd.filter _, h.falls⟩
theorem fallS_ok {s : Svc} {r : Srv} (h : 0 ≤ r.falls ∧ r.falls ≤ s.tries ∧ (r.word ≠ .given → r.falls < s.tries)) (hr : r.word.runs = true) : 0 ≤ (fallS s r).falls ∧ (fallS s r).falls ≤ s.tries ∧ ((fallS s r).word ≠ .given → (fallS s r).falls < s.tries) := by
  have hg : r.word ≠ .given := fun z => by rw [z] at hr; cases hr
  have := h.2.2 hg
  unfold fallS
  split
  · exact ⟨h.1, h.2.1, fun _ => this⟩
  · split
    · exact ⟨by show 0 ≤ r.falls + 1; omega, by show r.falls + 1 ≤ _; omega, fun z => absurd rfl z⟩
    · exact ⟨by show 0 ≤ r.falls + 1; omega, by show r.falls + 1 ≤ _; omega, fun _ => by show r.falls + 1 < _; omega⟩
theorem KOk.set {p : Pl} {st : Kst} (h : KOk p st) {i : Nat} {r' : Srv} (hr : ∀ s, p[i]? = some s → 0 ≤ r'.falls ∧ r'.falls ≤ s.tries ∧ (r'.word ≠ .given → r'.falls < s.tries)) : KOk p (setSrv st i r') := by
  refine ⟨by show (st.srvs.set i r').length = _; rw [List.length_set]; exact h.len, h.lt, h.nd, fun k r s hk hp => ?_⟩
  have hk : (st.srvs.set i r')[k]? = some r := hk
  by_cases e : k = i
  · subst e
    have hlt : k < st.srvs.length := by rw [h.len]; exact (List.getElem?_eq_some_iff.mp hp).1
    rw [List.getElem?_set_self hlt] at hk
    cases hk
    exact hr s hp
  · rw [List.getElem?_set_ne (fun z => e z.symm)] at hk
    exact h.falls k r s hk hp
theorem KOk.tell {p : Pl} {st : Kst} (h : KOk p st) {i : Nat} {w : Lw} : KOk p (tellK st i w) := ⟨h.len, h.lt, h.nd, h.falls⟩
theorem KOk.fall {p : Pl} {st : Kst} (h : KOk p st) {i : Nat} (hi : i < p.length) : KOk p (fallK p st i) := by
  have hi2 : i < st.srvs.length := by rw [h.len]; exact hi
  have q : st.srvs[i]? = some st.srvs[i] := List.getElem?_eq_getElem hi2
  generalize st.srvs[i] = r at q
  have hp : p[i]? = some p[i] := List.getElem?_eq_getElem hi
  generalize p[i] = s at hp
  unfold fallK
  rw [wordAt_some q, srvAt_some q, svcAt_some hp]
  split
  · next hr =>
    have hk : KOk p (setSrv (tellK st i .falls) i (fallS s r)) := h.tell.set fun s' hs' => by
      rw [hp] at hs'
      cases hs'
      exact fallS_ok (h.falls i r s q hp) hr
    split
    · exact hk.tell
    · exact hk
  · exact h
theorem KOk.begin {p : Pl} (hs : Sound p) : KOk p (st0 p) := by
  refine ⟨List.length_replicate, (fun g hg => by cases hg), List.nodup_nil, fun i r s hr hp => ?_⟩
  have hr : (List.replicate p.length srv0)[i]? = some r := hr
  have := List.eq_of_mem_replicate (List.mem_of_getElem? hr)
  subst this
  have ht := (hs.svc i s hp).tries
  exact ⟨Int.le_refl _, by show (0 : Int) ≤ _; omega, fun _ => by show (0 : Int) < _; omega⟩
/-! how many rows come -/
theorem rows_count {p : Pl} {st : Kst} {n : Nat} : (countN p st n).rows.length ≤ st.rows.length + n := by
  show (st.rows ++ _).length ≤ _
  rw [List.length_append]
  have := List.length_filterMap_le (toldS p st) (List.range n)
  rw [List.length_range] at this
  omega
theorem rows_done {p : Pl} {st : Kst} {ch : List (Nat × Wd)} : (doneN p ch st).rows.length ≤ st.rows.length + ch.length := by
  show (st.rows ++ _).length ≤ _
  rw [List.length_append]
  have := List.length_filterMap_le (rowOf st.beats) ch
  omega
theorem chosenK_len {p : Pl} {st : Kst} : (chosenK p st).length ≤ p.length := by
  unfold chosenK
  have := List.length_filterMap_le (fun i => (pickK p st i).map fun w => (i, w)) (List.range p.length)
  rw [List.length_range] at this
  exact this
theorem rows_beat {p : Pl} {st : Kst} : (beatK p st).rows.length ≤ st.rows.length + 2 * p.length := by
  have h1 := rows_count (p := p) (st := st) (n := p.length)
  have h2 := rows_done (p := p) (st := countK p st) (ch := chosenK p (countK p st))
  have h3 := chosenK_len (p := p) (st := countK p st)
  show (doneN p _ _).rows.length ≤ _
  unfold countK at h2 h3 ⊢
  omega
theorem rows_fall {p : Pl} {st : Kst} {i : Nat} : (fallK p st i).rows.length ≤ st.rows.length + 2 := by
  unfold fallK
  split
  · split
    · show ((st.rows ++ [_]) ++ [_]).length ≤ _
      simp
    · show (st.rows ++ [_]).length ≤ _
      simp
  · omega
end Kr

namespace Kr
open PySem PySem.Spec PyProof.Rows L2 Dl
open Evl (Ex)
theorem KWf.at {j : KJ} (h : KWf j) {x : Nat} (hx : x < j.p.length) : ∃ a s r, j.x.sv[x]? = some a ∧ j.p[x]? = some s ∧ j.st.srvs[x]? = some r :=
  ⟨_, _, _, List.getElem?_eq_getElem (by rw [h.sv]; exact hx), List.getElem?_eq_getElem hx, List.getElem?_eq_getElem (by rw [h.ok.len]; exact hx)⟩
theorem allW_lt {p : Pl} {i x : Nat} (h : x ∈ allW p i) : x < p.length := by
  unfold allW at h
  exact List.mem_range.mp (List.mem_filter.mp h).1
theorem wantedBy_lt {p : Pl} {i x : Nat} (h : x ∈ wantedBy p i) : x < p.length := by
  unfold wantedBy at h
  exact List.mem_range.mp (List.mem_filter.mp h).1
theorem allW_len {p : Pl} {i : Nat} : (allW p i).length ≤ p.length := by
  unfold allW
  have := List.length_filter_le (fun x => @decide (Reach p i x) (Classical.propDecidable _)) (List.range p.length)
  rw [List.length_range] at this
  exact this
theorem wantedBy_len {p : Pl} {i : Nat} : (wantedBy p i).length ≤ p.length := by
  unfold wantedBy
  have := List.length_filter_le (fun j => decide (i ∈ wantsOf p j)) (List.range p.length)
  rw [List.length_range] at this
  exact this
theorem isEmpty_any {l : List Nat} {f : Nat → Bool} : (!(((iz l).filter fun a => f a.toNat).map PyData.int).isEmpty) = l.any f := by
  induction l with
  | nil => rfl
  | cons x r ih =>
    rw [List.any_cons, ← ih]
    show (!(((((x : Int) :: iz r).filter fun a => f a.toNat).map PyData.int).isEmpty)) = _
    rw [List.filter_cons, Int.toNat_natCast]
    cases f x <;> rfl
section
variable {P : Program} {w : World} {K : PySem.W.Frag} {mg : Str → Option Value} {base : Heap} {CK CS : Addr}
theorem endK {j j' : KJ} (h : j'.me = j.me) : EndR KJ.me (RKx K CK CS) j j' (RKx K CK CS j') := ⟨h, fun v B H M q => ⟨by rw [← h]; exact q.1, q⟩⟩
/-! ### a keeper's methods -/
def pTell (j : KJ) (ds : List PyData) : Prop := j.st.rows.length < 100000 ∧ ∃ (i : Nat) (w : Lw), ds = [.int (i : Int), .str w.s]
def tTell (j : KJ) (ds : List PyData) (j' : KJ) (s : Slot) : Prop := ∀ (i : Nat) (w : Lw), ds = [.int (i : Int), .str w.s] → j' = j.to (tellK j.st i w) ∧ s = .pu .none
theorem ok_tell (D : DfM K CK "tell" "Keeper.tell" s_Keeper_tell ["self", "number", "word"]) (T : KTxt K CK CS) : Dl.Met P w K mg base 1 CK "tell" (spM K KJ.me (RKx K CK CS) 2 pTell tTell) := by
  have nd := sc_Keeper_tell.nd
  refine metM D sc_Keeper_tell rfl fun f cdv A outer st H E hr => ⟨_, (pss_one (ps_expr (Kk.pe_bm (K := K) PySem.F.plainAttrs_list PySem.F.slot_list_append PySem.F.type_list_append mt_append (Kk.pe_fld (K := K) (pv 0) rfl) (pa_cons (pe_tup (pa_cons (Kk.pe_fld (K := K) (pv 0) rfl) (pa_cons (pv 1) (pa_cons (pv 2) pa_nil)))) pa_nil)))), fun j ds hn hp => ?_⟩
  obtain ⟨hl, i, w, rfl⟩ := hp
  show ExS K _ _ [.ow (RKx K CK CS j), .pu (.int i), .pu (.str w.s)]
  fail "kk"
  refine ⟨j, ⟨j.st.beats, i, w⟩, rfl, rfl, rfl, hl, ?_⟩
  fail "kk"
  refine ⟨_, _, rfl, endK rfl, fun i' w' e => ?_⟩
  simp only [List.cons.injEq, PyData.str.injEq, PyData.int.injEq, and_true] at e
  obtain ⟨e1, e2⟩ := e
  cases Lw.s_inj.mp e2
  have e3 : i = i' := by omega
  subst e3
  exact ⟨rfl, rfl⟩
def pOne (j : KJ) (ds : List PyData) : Prop := KWf j ∧ ∃ i : Nat, ds = [.int (i : Int)] ∧ i < j.p.length
def tLacks (j : KJ) (ds : List PyData) (j' : KJ) (s : Slot) : Prop := j' = j ∧ ∀ i : Nat, ds = [.int (i : Int)] → s = .pu (.bool (lacksK j.p j.st i))
theorem ok_lacks (D : DfM K CK "lacks" "Keeper.lacks" s_Keeper_lacks ["self", "number"]) (T : KTxt K CK CS) (C : KC K mg) (c_all_wants : Cal P w K mg base 1 "all_wants" (spP K 2 pIdx tAllWants)) : Dl.Met P w K mg base 2 CK "lacks" (spM K KJ.me (RKx K CK CS) 1 pOne tLacks) := by
  have nd := sc_Keeper_lacks.nd
  have g_UP := C.UP
  refine metM D sc_Keeper_lacks rfl fun f cdv A outer st H E hr => ⟨_, (pss_one (ps_ret (pe_cmpR (Kk.op_neD (K := K) hr.units) (pe_lc (own := [("one", 2)]) rfl nd (Kk.pi_list (K := K) (Dl.pe_c c_all_wants hr (pa_cons (Kk.pe_fld (K := K) (pv 0) rfl) (pa_cons (pv 1) pa_nil)))) (blkOk_by (by kernel_rfl)) (fun _ _ _ _ _ => (pg_name (i := 2) nd rfl (by first | exact Or.inl rfl | exact Or.inr rfl))) (fun _ _ _ _ _ => (pts_one (pt_cmpR op_ne (Kk.pe_fld (K := K) (pe_ix (Kk.ix_list (K := K)) (Kk.pe_fld (K := K) (pv 0) rfl) (pv 2) (fun _ _ => rfl)) rfl) (C8.pe_gc (by rfl) g_UP) (nomark _)))) (fun _ _ _ _ _ => (pv 2))) (pe_lst pa_nil) (nomark _)))), fun j ds hn hp => ?_⟩
  obtain ⟨hw, i, rfl, hi⟩ := hp
  have h12 := hw.good.sound.few
  show ExS K _ _ [.ow (RKx K CK CS j), .pu (.int i), .non]
  fail "kk"
  refine ev_fL (g := PyData.int) (fun a => !decide (wordAt j.st a.toNat = .up)) PyData.int ?_
  fail "kk"
  refine ev_call ?_
  fail "kk"
  refine ⟨rfl, ⟨j.p, i, rfl, hw.good, hi⟩, fun r hr => ?_⟩
  cases hr _ _ rfl
  refine ⟨iz (allW j.p i), den_ow, wip1 rfl junk_non, Nat.le_of_ble_eq_true rfl, by rw [iz_len]; have := allW_len (p := j.p) (i := i); omega, fun a ha => ?_, ?_⟩
  · obtain ⟨x, rfl, hx⟩ := iz_ex ha
    obtain ⟨a, s, r, h1, h2, h3⟩ := hw.at (allW_lt hx)
    unfold Turn1C
    simp only [List.set_cons_zero, List.set_cons_succ]
    fail "kk"
    refine ⟨rfl, by rw [Int.toNat_natCast, wordAt_some h3], fun _ => ?_⟩
    fail "kk"
    exact ⟨rfl, rfl⟩
  · fail "kk"
    refine ⟨shaped_ints _, ?_⟩
    refine ⟨_, _, rfl, endK rfl, .inl ⟨_, rfl, rfl, fun i' e => ?_⟩⟩
    have e2 : (i : Int) = (i' : Int) := PyData.int.inj (List.head_eq_of_cons_eq e)
    have e3 : i = i' := by omega
    subst e3
    rw [isEmpty_any (f := fun x => !decide (wordAt j.st x = .up))]
    rfl
def tFree (j : KJ) (ds : List PyData) (j' : KJ) (s : Slot) : Prop := j' = j ∧ ∀ i : Nat, ds = [.int (i : Int)] → s = .pu (.bool (freeK j.p j.st i))
theorem runs_iff {a : Wd} : decide (a ∈ [Wd.begins, .up, .ends]) = a.runs := by cases a <;> rfl
theorem ok_is_free (D : DfM K CK "is_free" "Keeper.is_free" s_Keeper_is_free ["self", "number"]) (T : KTxt K CK CS) (C : KC K mg) (c_wanted_by : Cal P w K mg base 1 "wanted_by" (spP K 2 pIdx tWantedBy)) : Dl.Met P w K mg base 2 CK "is_free" (spM K KJ.me (RKx K CK CS) 1 pOne tFree) := by
  have nd := sc_Keeper_is_free.nd
  obtain ⟨vR, uR, hmR, rR, dR⟩ := C.RUNNING.ex
  have g_RUNNING : ∃ u, mg "RUNNING" = some u ∧ RelV vR u := ⟨uR, hmR, rR⟩
  refine metM D sc_Keeper_is_free rfl fun f cdv A outer st H E hr => ⟨_, (pss_one (ps_ret (pe_cmpR (Kk.op_eqD (K := K) hr.units) (pe_lc (own := [("one", 2)]) rfl nd (Kk.pi_list (K := K) (Dl.pe_c c_wanted_by hr (pa_cons (Kk.pe_fld (K := K) (pv 0) rfl) (pa_cons (pv 1) pa_nil)))) (blkOk_by (by kernel_rfl)) (fun _ _ _ _ _ => (pg_name (i := 2) nd rfl (by first | exact Or.inl rfl | exact Or.inr rfl))) (fun _ _ _ _ _ => (pts_one (pt_cmpR (Kk.op_in_seq (K := K)) (Kk.pe_fld (K := K) (pe_ix (Kk.ix_list (K := K)) (Kk.pe_fld (K := K) (pv 0) rfl) (pv 2) (fun _ _ => rfl)) rfl) (C8.pe_gc (by rfl) g_RUNNING) (by rfl)))) (fun _ _ _ _ _ => (pv 2))) (pe_lst pa_nil) (nomark _)))), fun j ds hn hp => ?_⟩
  obtain ⟨hw, i, rfl, hi⟩ := hp
  have h12 := hw.good.sound.few
  show ExS K _ _ [.ow (RKx K CK CS j), .pu (.int i), .non]
  fail "kk"
  refine ev_fL (g := PyData.int) (fun a => (wordAt j.st a.toNat).runs) PyData.int ?_
  fail "kk"
  refine ev_call ?_
  fail "kk"
  refine ⟨rfl, ⟨j.p, i, rfl, hw.good, hi⟩, fun r hr => ?_⟩
  cases hr _ _ rfl
  refine ⟨iz (wantedBy j.p i), den_ow, wip1 rfl junk_non, Nat.le_of_ble_eq_true rfl, by rw [iz_len]; have := wantedBy_len (p := j.p) (i := i); omega, fun a ha => ?_, ?_⟩
  · obtain ⟨x, rfl, hx⟩ := iz_ex ha
    obtain ⟨a, s, r, h1, h2, h3⟩ := hw.at (wantedBy_lt hx)
    unfold Turn1C
    simp only [List.set_cons_zero, List.set_cons_succ]
    fail "kk"
    refine ⟨rfl, by rw [if_neg Bool.false_ne_true, runs_iff, Int.toNat_natCast, wordAt_some h3], fun _ => ?_⟩
    fail "kk"
    exact ⟨rfl, rfl⟩
  · fail "kk"
    refine ⟨shaped_ints _, ?_⟩
    refine ⟨_, _, rfl, endK rfl, .inl ⟨_, rfl, rfl, fun i' e => ?_⟩⟩
    have e2 : (i : Int) = (i' : Int) := PyData.int.inj (List.head_eq_of_cons_eq e)
    have e3 : i = i' := by omega
    subst e3
    have := isEmpty_any (l := wantedBy j.p i) (f := fun x => (wordAt j.st x).runs)
    unfold freeK
    rw [← Bool.not_not ((((iz (wantedBy j.p i)).filter fun a => (wordAt j.st a.toNat).runs).map PyData.int).isEmpty), this, List.not_any_eq_all_not]
def pNone (j : KJ) (ds : List PyData) : Prop := KWf j ∧ ds = []
def tLog (j : KJ) (_ : List PyData) (j' : KJ) (s : Slot) : Prop := j' = j ∧ s = .ow (RL K (j.st.rows.map logD))
theorem ok_log (D : DfM K CK "log" "Keeper.log" s_Keeper_log ["self"]) (T : KTxt K CK CS) (B : Bn mg) : Dl.Met P w K mg base 1 CK "log" (spM K KJ.me (RKx K CK CS) 0 pNone (tLog (K := K))) := by
  have nd := sc_Keeper_log.nd
  refine metM D sc_Keeper_log rfl fun f cdv A outer st H E hr => ⟨_, (pss_one (ps_ret (pe_callTy (Kk.call_list_of (K := K)) (by rfl) B.list (by decide +kernel) (pa_cons (Kk.pe_fld (K := K) (pv 0) rfl) pa_nil)))), fun j ds hn hp => ?_⟩
  obtain ⟨hw, rfl⟩ := hp
  show ExS K _ _ [.ow (RKx K CK CS j)]
  fail "kk"
  exact ⟨_, _, rfl, endK rfl, .inr (.inl ⟨_, rfl, rfl, rfl⟩)⟩
end
end Kr

namespace Kr
open PySem PySem.Spec PyProof.Rows L2 Dl
open Evl (Ex)
theorem lk_tell (x : KAd) (p : Pl) (b : Int) : List.lookup ("tell" : Str) (kepF x p b) = none := by kernel_rfl
theorem lk_due (x : KAd) (p : Pl) (b : Int) : List.lookup ("due" : Str) (kepF x p b) = none := by kernel_rfl
theorem lk_lacks (x : KAd) (p : Pl) (b : Int) : List.lookup ("lacks" : Str) (kepF x p b) = none := by kernel_rfl
theorem lk_is_free (x : KAd) (p : Pl) (b : Int) : List.lookup ("is_free" : Str) (kepF x p b) = none := by kernel_rfl
theorem lk_chosen (x : KAd) (p : Pl) (b : Int) : List.lookup ("chosen" : Str) (kepF x p b) = none := by kernel_rfl
theorem lk_ask (x : KAd) (p : Pl) (b : Int) : List.lookup ("ask" : Str) (kepF x p b) = none := by kernel_rfl
theorem lk_leave (x : KAd) (p : Pl) (b : Int) : List.lookup ("leave" : Str) (kepF x p b) = none := by kernel_rfl
theorem lk_kfall (x : KAd) (p : Pl) (b : Int) : List.lookup ("fall" : Str) (kepF x p b) = none := by kernel_rfl
theorem lk_beat (x : KAd) (p : Pl) (b : Int) : List.lookup ("beat" : Str) (kepF x p b) = none := by kernel_rfl
theorem lk_states (x : KAd) (p : Pl) (b : Int) : List.lookup ("states" : Str) (kepF x p b) = none := by kernel_rfl
theorem lk_log (x : KAd) (p : Pl) (b : Int) : List.lookup ("log" : Str) (kepF x p b) = none := by kernel_rfl
open Classical in
theorem dueK_mem {p : Pl} {st : Kst} (hs : Sound p) (hl : ∀ g ∈ st.goals, g < p.length) {x : Nat} : x ∈ dueK p st ↔ Due p st x := by
  unfold dueK
  rw [List.mem_filter, List.mem_range]
  refine ⟨fun h => of_decide_eq_true h.2, fun h => ⟨?_, decide_eq_true h⟩⟩
  rcases h with h | ⟨g, _, h⟩
  · exact hl x h
  · exact h.lt hs
theorem dueK_rise {p : Pl} {st : Kst} : (dueK p st).Pairwise (· < ·) := List.pairwise_lt_range.filter _
theorem revive_get {l : List Nat} {rs : List Srv} {x : Nat} : (revive l rs)[x]? = rs[x]?.map fun r => if x ∈ l ∧ r.word = .given then srv0 else r := by
  unfold revive
  rw [List.getElem?_mapIdx]
theorem revive_len {l : List Nat} {rs : List Srv} : (revive l rs).length = rs.length := by unfold revive; rw [List.length_mapIdx]
theorem revive_nil {rs : List Srv} : revive [] rs = rs := by
  apply List.ext_getElem?
  intro i
  rw [revive_get]
  cases rs[i]? with
  | none => rfl
  | some r => simp
theorem revive_given {l : List Nat} {rs : List Srv} {x : Nat} {r : Srv} (h : (revive l rs)[x]? = some r) (hr : r.word = .given) : revive (l ++ [x]) rs = (revive l rs).set x srv0 := by
  apply List.ext_getElem?
  intro i
  have hx := (List.getElem?_eq_some_iff.mp h).1
  by_cases e : i = x
  · subst e
    rw [List.getElem?_set_self hx, revive_get]
    rw [revive_get] at h
    cases q : rs[i]? with
    | none => rw [q] at h; cases h
    | some r0 =>
      rw [q] at h
      have h1 : (if i ∈ l ∧ r0.word = .given then srv0 else r0) = r := Option.some.inj h
      have h2 : r0.word = .given := by
        by_cases c : i ∈ l ∧ r0.word = .given
        · exact c.2
        · rw [if_neg c] at h1
          rw [h1]
          exact hr
      show some (if _ then _ else _) = _
      rw [if_pos ⟨List.mem_append_right _ (List.mem_singleton.mpr rfl), h2⟩]
  · rw [List.getElem?_set_ne (fun z => e z.symm), revive_get, revive_get]
    congr 1
    funext r0
    simp only [List.mem_append, List.mem_singleton, e, or_false]
theorem revive_old {l : List Nat} {rs : List Srv} {x : Nat} {r : Srv} (h : (revive l rs)[x]? = some r) (hr : r.word ≠ .given) : revive (l ++ [x]) rs = revive l rs := by
  apply List.ext_getElem?
  intro i
  rw [revive_get, revive_get]
  by_cases e : i = x
  · subst e
    rw [revive_get] at h
    cases q : rs[i]? with
    | none => rfl
    | some r0 =>
      rw [q] at h
      have h1 : (if i ∈ l ∧ r0.word = .given then srv0 else r0) = r := Option.some.inj h
      show some (if _ then _ else _) = some (if _ then _ else _)
      by_cases c : r0.word = .given
      · by_cases cl : i ∈ l
        · rw [if_pos ⟨List.mem_append_left _ cl, c⟩, if_pos ⟨cl, c⟩]
        · rw [if_neg (fun z => cl z.1)] at h1
          exact absurd (h1 ▸ c) hr
      · rw [if_neg (fun z => c z.2), if_neg (fun z => c z.2)]
  · congr 1
    funext r0
    simp only [List.mem_append, List.mem_singleton, e, or_false]
section
variable {K : PySem.W.Frag} {CK CS : Addr} {δ : List Slot} {te ta : TE} {d : Dn}
/-- self.services[..].falls = e -/
theorem xss_falls (T : KTxt K CK CS) (h : EvD K te δ fun x δ1 => ∃ l, x = .int l ∧ EvS K ta δ1 fun s δ2 => ∃ j i a sv r, SvRef K CK CS δ2 s j i a sv r ∧ d.nx (δ2.set 0 (.ow (RKx K CK CS (j.to (setSrv j.st i { r with falls := l })))))) : ExS K (sFld K ta te "falls") d δ :=
  xs_fldD fun B H σ F Q S k => h B H σ F Q S fun v x B2 H2 δ2 e f' S2 hd ⟨l, ex, p⟩ => k v x B2 H2 δ2 e f' S2 hd (p.imp fun s δ3 ⟨j, i, a, sv, r, ⟨es, h0, h1, h2, h3⟩, q⟩ => by
    obtain ⟨pre', post, e1, e2⟩ := cellsK_at (CK := CK) (CS := CS) h1 h2 h3
    refine ⟨0, _, _, a, ⟨h0, .inl es⟩, put_d (cs' := fun c => pre' ++ (a, c) :: post) ⟨pre', post, e1, fun _ => rfl⟩ T.clS T.s4 (by show 4 < 1000; decide), ?_⟩
    rw [ex, put_falls]
    unfold RKx at q
    rw [e2] at q
    exact q)
end
section
variable {P : Program} {w : World} {K : PySem.W.Frag} {mg : Str → Option Value} {base : Heap} {CK CS : Addr}
def tDue (j : KJ) (_ : List PyData) (j' : KJ) (s : Slot) : Prop := j' = j ∧ s = .ow (RL K (listD (dueK j.p j.st)))
theorem ok_due (D : DfM K CK "due" "Keeper.due" s_Keeper_due ["self"]) (T : KTxt K CK CS) (B : Bn mg) (c_all_wants : Cal P w K mg base 1 "all_wants" (spP K 2 pIdx tAllWants)) : Dl.Met P w K mg base 2 CK "due" (spM K KJ.me (RKx K CK CS) 0 pNone (tDue (K := K))) := by
  have nd := sc_Keeper_due.nd
  refine metM D sc_Keeper_due rfl fun f cdv A outer st H E hr => ⟨_, (pss_cons (ps_set (i := 1) nd rfl (Or.inl rfl) (pe_callTy (Kk.call_list_of (K := K)) (by rfl) B.list (by decide +kernel) (pa_cons (Kk.pe_fld (K := K) (pv 0) rfl) pa_nil)))
      (pss_cons (ps_for PassesOwn.never rfl (Kk.pi_list (K := K) (Kk.pe_fld (K := K) (pv 0) rfl)) (pg_name (i := 2) nd rfl (Or.inl rfl)) (pss_one (ps_expr (Kk.pe_bm (K := K) PySem.F.plainAttrs_list PySem.F.slot_list_extend PySem.F.type_list_extend (Kk.mt_extendA (K := K)) (pv 1) (pa_cons (Dl.pe_c c_all_wants hr (pa_cons (Kk.pe_fld (K := K) (pv 0) rfl) (pa_cons (pv 2) pa_nil))) pa_nil)))))
      (pss_one (ps_ret (pe_callB (Kk.cr_sortedSet (w := w) rfl) (by rfl) B.sorted (by decide +kernel) (pa_cons (pe_callTy (Kk.cr_setI (K := K) (w := w) rfl) (by rfl) B.set_ (by decide +kernel) (pa_cons (pv 1) pa_nil)) pa_nil)))))), fun j ds hn hp => ?_⟩
  obtain ⟨hw, rfl⟩ := hp
  have h12 := hw.good.sound.few
  have hgl : j.st.goals.length ≤ 12 := by
    have := nodup_len j.p.length j.st.goals hw.ok.nd hw.ok.lt
    omega
  show ExS K _ _ [.ow (RKx K CK CS j), .non, .non]
  fail "kk"
  refine xs_forS (evk_goals T rfl ⟨j.x.gl, listD j.st.goals, rfl, fun k δ' => ∃ (found : List Nat) (x2 : Slot), δ' = [.ow (RKx K CK CS j), .ow (RL K (listD found)), x2] ∧ (∀ x, x ∈ found ↔ x ∈ j.st.goals ∨ ∃ g ∈ j.st.goals.take k, Reach j.p g x) ∧ found.length ≤ 12 + 12 * k, ?_, ⟨j.st.goals, _, rfl, fun x => by simp, by omega⟩, ?_, ?_⟩)
  · rintro k _ ⟨found, x2, rfl, _⟩
    exact ⟨0, _, rfl, shk_goals⟩
  · rintro k y _ hy ⟨found, x2, rfl, hm, hl⟩
    have hk := (List.getElem?_eq_some_iff.mp hy).1
    rw [listD_len] at hk
    have hg : j.st.goals[k]? = some j.st.goals[k] := List.getElem?_eq_getElem hk
    generalize j.st.goals[k] = g at hg
    have ey : y = .int (g : Int) := by
      unfold listD iz at hy
      rw [List.getElem?_map, List.getElem?_map, hg] at hy
      exact (Option.some.inj hy).symm
    subst ey
    have hgp := hw.ok.lt g (List.mem_of_getElem? hg)
    refine turn1_name (Nat.le_of_ble_eq_true rfl) ?_
    fail "kk"
    refine ev_extend (ds0 := listD found) rfl ?_
    fail "kk"
    refine ev_call ?_
    fail "kk"
    refine ⟨rfl, ⟨j.p, g, rfl, hw.good, hgp⟩, fun r hr => ?_⟩
    cases hr _ _ rfl
    have hal := allW_len (p := j.p) (i := g)
    refine ⟨_, _, rfl, .inl den_ow, by rw [listD_len, List.length_map, iz_len]; omega, ?_⟩
    refine ⟨found ++ allW j.p g, _, by rw [listD_app]; rfl, fun x => ?_, by rw [List.length_append]; omega⟩
    rw [List.mem_append, hm x, allW_mem hw.good.sound, List.take_add_one, hg]
    constructor
    · rintro ((h | ⟨g', h1, h2⟩) | h)
      · exact .inl h
      · exact .inr ⟨g', List.mem_append_left _ h1, h2⟩
      · exact .inr ⟨g, List.mem_append_right _ (List.mem_singleton.mpr rfl), h⟩
    · rintro (h | ⟨g', h1, h2⟩)
      · exact .inl (.inl h)
      · rcases List.mem_append.mp h1 with h1 | h1
        · exact .inl (.inr ⟨g', h1, h2⟩)
        · rw [show g' = g from List.mem_singleton.mp h1] at h2
          exact .inr h2
  · rintro _ ⟨found, x2, rfl, hm, hl⟩
    rw [listD_len] at hm hl
    rw [List.take_length] at hm
    have hm2 : ∀ x, x ∈ found ↔ Due j.p j.st x := hm
    fail "kk"
    refine ⟨by rw [iz_len]; omega, fun l hnd hmem => ?_, fun ns' h1 h2 => ?_⟩
    · have : l.length ≤ (iz (List.range 12)).length := nodup_sub hnd fun k hk => by
        obtain ⟨x, rfl, hx⟩ := iz_ex ((hmem k).mp hk)
        have := (dueK_mem hw.good.sound hw.ok.lt).mpr ((hm2 x).mp hx)
        unfold dueK at this
        have := List.mem_range.mp (List.mem_filter.mp this).1
        exact iz_mem.mpr (List.mem_range.mpr (by omega))
      rw [iz_len, List.length_range] at this
      omega
    · have e : ns' = iz (dueK j.p j.st) := rising_unique h1 (iz_rise dueK_rise) fun k => by
        rw [h2 k]
        constructor
        · intro hk
          obtain ⟨x, rfl, hx⟩ := iz_ex hk
          exact iz_mem.mpr ((dueK_mem hw.good.sound hw.ok.lt).mpr ((hm2 x).mp hx))
        · intro hk
          obtain ⟨x, rfl, hx⟩ := iz_ex hk
          exact iz_mem.mpr ((hm2 x).mpr ((dueK_mem hw.good.sound hw.ok.lt).mp hx))
      subst e
      exact ⟨_, _, rfl, endK rfl, .inr (.inl ⟨_, rfl, rfl, rfl⟩)⟩
def tAsk (j : KJ) (ds : List PyData) (j' : KJ) (s : Slot) : Prop := s = .pu .none ∧ ∀ i : Nat, ds = [.int (i : Int)] → j' = j.to (askK j.p j.st i)
theorem ok_ask (D : DfM K CK "ask" "Keeper.ask" s_Keeper_ask ["self", "number"]) (T : KTxt K CK CS) (C : KC K mg) (c_need_service : Cal P w K mg base 2 "need_service" (spP K 2 pIdx tNone)) (c_all_wants : Cal P w K mg base 1 "all_wants" (spP K 2 pIdx tAllWants)) (m_Service_put : Dl.Met P w K mg base 1 CS "put" (spM K SvI.a (RSv K CS) 2 pPut tPut)) : Dl.Met P w K mg base 3 CK "ask" (spM K KJ.me (RKx K CK CS) 1 pOne tAsk) := by
  have nd := sc_Keeper_ask.nd
  have g_OFF := C.OFF
  have g_GIVEN := C.GIVEN
  refine metM D sc_Keeper_ask rfl fun f cdv A outer st H E hr => ⟨_, (pss_cons (ps_expr (Dl.pe_c c_need_service hr (pa_cons (Kk.pe_fld (K := K) (pv 0) rfl) (pa_cons (pv 1) pa_nil))))
      (pss_cons (ps_if (pt_cmpR (Kk.op_notIn_seq (K := K)) (pv 1) (Kk.pe_fld (K := K) (pv 0) rfl) (by rfl)) (pss_one (ps_expr (Kk.pe_bm (K := K) PySem.F.plainAttrs_list PySem.F.slot_list_append PySem.F.type_list_append mt_append (Kk.pe_fld (K := K) (pv 0) rfl) (pa_cons (pv 1) pa_nil)))) pss_nil)
      (pss_one (ps_for PassesOwn.never rfl (Kk.pi_list (K := K) (pe_op (Kk.op_catS (K := K)) (pe_lst (pa_cons (pv 1) pa_nil)) (Dl.pe_c c_all_wants hr (pa_cons (Kk.pe_fld (K := K) (pv 0) rfl) (pa_cons (pv 1) pa_nil))))) (pg_name (i := 2) nd rfl (Or.inl rfl)) (pss_one (ps_if (pt_cmpR op_eq (Kk.pe_fld (K := K) (pe_ix (Kk.ix_list (K := K)) (Kk.pe_fld (K := K) (pv 0) rfl) (pv 2) (fun _ _ => rfl)) rfl) (C8.pe_gc (by rfl) g_GIVEN) (nomark _)) (pss_cons (ps_expr (Dl.pe_m m_Service_put hr (pe_ix (Kk.ix_list (K := K)) (Kk.pe_fld (K := K) (pv 0) rfl) (pv 2) (fun _ _ => rfl)) (pa_cons (C8.pe_gc (by rfl) g_OFF) (pa_cons pe_int pa_nil))))
      (pss_one (Kk.ps_fld (K := K) (pe_ix (Kk.ix_list (K := K)) (Kk.pe_fld (K := K) (pv 0) rfl) (pv 2) (fun _ _ => rfl)) pe_int rfl))) pss_nil)))))), fun j ds hn hp => ?_⟩
  obtain ⟨hw, i, rfl, hi⟩ := hp
  have h12 := hw.good.sound.few
  have hal := allW_len (p := j.p) (i := i)
  have hgl : j.st.goals.length ≤ 12 := by
    have := nodup_len j.p.length j.st.goals hw.ok.nd hw.ok.lt
    omega
  show ExS K _ _ [.ow (RKx K CK CS j), .pu (.int i), .non]
  fail "kk"
  refine ev_call ?_
  fail "kk"
  refine ⟨rfl, ⟨j.p, i, rfl, hw.good, hi⟩, fun r hr => ?_⟩
  show ExS K (tSeq _ _) _ _
  refine xs_seq (xs_mid (fun δ' => δ' = [.ow (RKx K CK CS (j.to { j.st with goals := if i ∈ j.st.goals then j.st.goals else j.st.goals ++ [i] })), .pu (.int i), .non]) ?_ ?_)
  · fail "kk"
    by_cases h : i ∈ j.st.goals
    · refine ifF (by rw [if_pos rfl, decide_eq_true h]; rfl) ?_
      fail "kk"
      rw [if_pos h]
    · refine ifT (by rw [if_pos rfl, decide_eq_false h]; rfl) ?_
      fail "kk"
      refine ⟨j, i, rfl, rfl, rfl, by omega, ?_⟩
      rw [if_neg h]
      rfl
  · rintro _ rfl
    generalize hgo : (if i ∈ j.st.goals then j.st.goals else j.st.goals ++ [i]) = goals
    show ExS K (tFor _ _ _) _ _
    refine xs_forL (ed_of ?_)
    fail "kk"
    refine ev_call ?_
    fail "kk"
    refine ⟨rfl, ⟨j.p, i, rfl, hw.good, hi⟩, fun r hr => ?_⟩
    cases hr _ _ rfl
    fail "kk"
    let jk : List Nat → KJ := fun l => j.to { j.st with goals := goals, srvs := revive l j.st.srvs }
    refine ⟨by rw [List.length_map, iz_len]; show 1 + (allW j.p i).length ≤ _; omega, _, frz_ow, listD (i :: allW j.p i), rfl, fun k δ' => ∃ x2, δ' = [.ow (RKx K CK CS (jk ((i :: allW j.p i).take k))), .pu (.int i), x2], ⟨.non, ?_⟩, ?_, ?_⟩
    · show _ = [Slot.ow (RKx K CK CS (j.to { j.st with goals := goals, srvs := revive [] j.st.srvs })), _, _]
      rw [revive_nil]
    · rintro k y _ hy ⟨x2, rfl⟩
      obtain ⟨x, hx, rfl⟩ : ∃ x, (i :: allW j.p i)[k]? = some x ∧ y = .int (x : Int) := by
        unfold listD iz at hy
        rw [List.getElem?_map, List.getElem?_map] at hy
        cases q : (i :: allW j.p i)[k]? with
        | none => rw [q] at hy; cases hy
        | some x => rw [q] at hy; exact ⟨x, rfl, (Option.some.inj hy).symm⟩
      have hxp : x < j.p.length := by
        rcases List.mem_cons.mp (List.mem_of_getElem? hx) with rfl | h
        · exact hi
        · exact allW_lt h
      have etk : (i :: allW j.p i).take (k + 1) = (i :: allW j.p i).take k ++ [x] := by rw [List.take_add_one, hx]; rfl
      obtain ⟨a, s, r0, h1, h2, h30⟩ := hw.at hxp
      obtain ⟨r, h3⟩ : ∃ r, (revive ((i :: allW j.p i).take k) j.st.srvs)[x]? = some r := ⟨_, List.getElem?_eq_getElem (by rw [revive_len, hw.ok.len]; exact hxp)⟩
      have h1' : (jk ((i :: allW j.p i).take k)).x.sv[x]? = some a := h1
      have h2' : (jk ((i :: allW j.p i).take k)).p[x]? = some s := h2
      have h3' : (jk ((i :: allW j.p i).take k)).st.srvs[x]? = some r := h3
      have hlt : x < (revive ((i :: allW j.p i).take k) j.st.srvs).length := by rw [revive_len, hw.ok.len]; exact hxp
      refine turn1_name (Nat.le_of_ble_eq_true rfl) ?_
      fail "kk"
      refine ifB (fun h => ?_) (fun h => ?_)
      · have hg := of_decide_eq_true h
        fail "kk"
        refine evs_meth (CK := CK) lk_put (fun _ _ _ _ h => h.1) ?_
        fail "kk"
        refine ⟨rfl, rfl, ⟨.off, 0, rfl⟩, fun r' s' hT => ?_⟩
        obtain ⟨er, rfl⟩ := hT.2 .off 0 rfl
        cases (SvI.mk.inj er).2.2
        have h4 : (setSrv (jk ((i :: allW j.p i).take k)).st x ⟨.off, 0, r.falls⟩).srvs[x]? = some ⟨.off, 0, r.falls⟩ := List.getElem?_set_self hlt
        fail "kk"
        refine xss_falls T ?_
        fail "kk"
        refine ⟨.pu (.int x), ?_⟩
        show [Slot.ow (RKx K CK CS (j.to { j.st with goals := goals, srvs := ((revive ((i :: allW j.p i).take k) j.st.srvs).set x ⟨.off, 0, r.falls⟩).set x ⟨.off, 0, 0⟩ })), _, _] = [Slot.ow (RKx K CK CS (j.to { j.st with goals := goals, srvs := revive ((i :: allW j.p i).take (k + 1)) j.st.srvs })), _, _]
        rw [List.set_set, etk, revive_given h3 hg]
        rfl
      · have hg : r.word ≠ .given := of_decide_eq_false h
        fail "kk"
        refine ⟨.pu (.int x), ?_⟩
        show _ = [Slot.ow (RKx K CK CS (j.to { j.st with goals := goals, srvs := revive ((i :: allW j.p i).take (k + 1)) j.st.srvs })), _, _]
        rw [etk, revive_old h3 hg]
    · rintro _ ⟨x2, rfl⟩
      rw [listD_len, List.take_length]
      refine ⟨_, _, rfl, endK (j' := jk (i :: allW j.p i)) rfl, rfl, fun i' e => ?_⟩
      have e2 : (i : Int) = (i' : Int) := PyData.int.inj (List.head_eq_of_cons_eq e)
      have e3 : i = i' := by omega
      subst e3
      show j.to _ = j.to _
      unfold askK
      rw [hgo]
end
end Kr

namespace Kr
open PySem Dl
/-! ### logs, judged -/
def jw : Wd → Lw
  | .begins => .begins | .up => .up | .ends => .ends | _ => .off
def mayJ (p : Pl) (ws : List Lw) (n : Nat) (w : Lw) : Bool := match w with
  | .begins => decide (ws.getD n .off = .off) && (wantsOf p n).all fun j => decide (ws.getD j .off = .up)
  | .up => decide (ws.getD n .off = .begins)
  | .ends => (decide (ws.getD n .off = .begins) || decide (ws.getD n .off = .up)) && (wantedBy p n).all fun j => decide (ws.getD j .off = .off)
  | .off => decide (ws.getD n .off = .ends)
  | _ => !decide (ws.getD n .off = .off)
def nextJ (ws : List Lw) (n : Nat) (w : Lw) : List Lw := ws.set n (if w = .falls then .off else w)
def badJ (p : Pl) : List Lw → List (Nat × Lw) → Nat → Option Nat
  | _, [], _ => none
  | ws, r :: rs, i => if mayJ p ws r.1 r.2 = true then badJ p (nextJ ws r.1 r.2) rs (i + 1) else some i
def jrun (p : Pl) : List Lw → List (Nat × Lw) → Option (List Lw)
  | ws, [] => some ws
  | ws, r :: rs => if mayJ p ws r.1 r.2 = true then jrun p (nextJ ws r.1 r.2) rs else none
theorem jrun_app {p : Pl} : ∀ {a b : List (Nat × Lw)} {ws : List Lw}, jrun p ws (a ++ b) = (jrun p ws a).bind fun w => jrun p w b
  | [], _, _ => rfl
  | r :: a, b, ws => by
    show (if _ then jrun p _ (a ++ b) else none) = (if _ then jrun p _ a else none).bind _
    split
    · exact jrun_app
    · rfl
theorem jrun_bad {p : Pl} : ∀ {a : List (Nat × Lw)} {ws ws' : List Lw} {i : Nat}, jrun p ws a = some ws' → badJ p ws a i = none
  | [], _, _, _, _ => rfl
  | r :: a, ws, ws', i, h => by
    have h : (if mayJ p ws r.1 r.2 = true then jrun p (nextJ ws r.1 r.2) a else none) = some ws' := h
    show (if mayJ p ws r.1 r.2 = true then badJ p (nextJ ws r.1 r.2) a (i + 1) else some i) = none
    split at h
    · next c => rw [if_pos c]; exact jrun_bad h
    · cases h
theorem jrun_take {p : Pl} {a : List (Nat × Lw)} {ws ws' : List Lw} (k : Nat) (h : jrun p ws a = some ws') : ∃ w2, jrun p ws (a.take k) = some w2 := by
  rw [← List.take_append_drop k a, jrun_app] at h
  cases q : jrun p ws (a.take k) with
  | none => rw [q] at h; cases h
  | some w2 => exact ⟨w2, rfl⟩
def strip (rows : List LRow) : List (Nat × Lw) := rows.filterMap fun r => if r.word = .given then none else some (r.num, r.word)
theorem strip_app (a b : List LRow) : strip (a ++ b) = strip a ++ strip b := List.filterMap_append ..
def jmap (st : Kst) : List Lw := st.srvs.map fun r => jw r.word
theorem jmap_get {st : Kst} {i : Nat} {r : Srv} (h : st.srvs[i]? = some r) : (jmap st).getD i .off = jw r.word := by
  unfold jmap
  rw [List.getD_eq_getElem?_getD, List.getElem?_map, h]
  rfl
/-- the log so far can come about and leads to where the keeper stands -/
def Leg (p : Pl) (st : Kst) : Prop := jrun p (List.replicate p.length .off) (strip st.rows) = some (jmap st)
theorem Leg.begin (p : Pl) : Leg p (st0 p) := by
  show some _ = some _
  congr 1
  unfold jmap st0
  rw [List.map_replicate]
  rfl
/-- one row more -/
theorem Leg.row {p : Pl} {st st' : Kst} (h : Leg p st) {x : LRow} (hr : st'.rows = st.rows ++ [x]) (hg : x.word ≠ .given) (hm : mayJ p (jmap st) x.num x.word = true) (hj : jmap st' = nextJ (jmap st) x.num x.word) : Leg p st' := by
  unfold Leg at h ⊢
  rw [hr, strip_app, jrun_app, h]
  have e : strip [x] = [(x.num, x.word)] := by simp [strip, hg]
  rw [e, hj]
  show (if mayJ p (jmap st) x.num x.word = true then some _ else none) = _
  rw [if_pos hm]
theorem Leg.same {p : Pl} {st st' : Kst} (h : Leg p st) (hr : strip st'.rows = strip st.rows) (hj : jmap st' = jmap st) : Leg p st' := by
  unfold Leg at h ⊢
  rw [hr, hj]
  exact h
theorem jmap_set {st : Kst} {i : Nat} {r' : Srv} : jmap (setSrv st i r') = (jmap st).set i (jw r'.word) := by
  unfold jmap setSrv
  rw [List.map_set]
theorem set_same {ws : List Lw} {i : Nat} (h : i < ws.length) (x : Lw) (hx : ws.getD i .off = x) : ws.set i x = ws := by
  apply List.ext_getElem?
  intro k
  by_cases e : k = i
  · subst e
    rw [List.getElem?_set_self h, ← hx, List.getD_eq_getElem?_getD, List.getElem?_eq_getElem h]
    rfl
  · rw [List.getElem?_set_ne (fun z => e z.symm)]
theorem jmap_len {st : Kst} : (jmap st).length = st.srvs.length := List.length_map ..
theorem Leg.ask {p : Pl} {st : Kst} (h : Leg p st) (i : Nat) : Leg p (askK p st i) := by
  refine h.same rfl ?_
  unfold jmap askK revive
  apply List.ext_getElem?
  intro k
  rw [List.getElem?_map, List.getElem?_map, List.getElem?_mapIdx]
  cases st.srvs[k]? with
  | none => rfl
  | some r =>
    show some (jw (if _ then srv0 else r).word) = some (jw r.word)
    split
    · next c => rw [c.2]; rfl
    · rfl
theorem Leg.leave {p : Pl} {st : Kst} (h : Leg p st) (i : Nat) : Leg p (leaveK st i) := h.same rfl rfl
theorem Leg.fall {p : Pl} {st : Kst} (h : Leg p st) (ho : KOk p st) {i : Nat} (hi : i < p.length) : Leg p (fallK p st i) := by
  have hi2 : i < st.srvs.length := by rw [ho.len]; exact hi
  have q : st.srvs[i]? = some st.srvs[i] := List.getElem?_eq_getElem hi2
  generalize st.srvs[i] = r at q
  have hp : p[i]? = some p[i] := List.getElem?_eq_getElem hi
  generalize p[i] = s at hp
  unfold fallK
  rw [wordAt_some q, srvAt_some q, svcAt_some hp]
  split
  · next hr =>
    have hf : jw (fallS s r).word = .off := by
      unfold fallS
      split
      · rfl
      · split <;> rfl
    have h1 : Leg p (setSrv (tellK st i .falls) i (fallS s r)) := by
      refine h.row (x := ⟨st.beats, i, .falls⟩) rfl (fun z => nomatch z) ?_ ?_
      · show (!decide ((jmap st).getD i .off = .off)) = true
        rw [jmap_get q]
        cases hw : r.word <;> rw [hw] at hr <;> first | rfl | cases hr
      · rw [jmap_set, hf]
        rfl
    split
    · exact h1.same (by unfold tellK; rw [strip_app]; simp [strip]) rfl
    · exact h1
  · exact h
theorem Leg.count {p : Pl} {st : Kst} (h : Leg p st) (ho : KOk p st) : ∀ n, n ≤ p.length → Leg p (countN p st n)
  | 0, _ => by rw [countN_zero]; exact h.same rfl rfl
  | n + 1, hn => by
    have ih := Leg.count h ho n (by omega)
    have hn2 : n < st.srvs.length := by rw [ho.len]; omega
    have q : st.srvs[n]? = some st.srvs[n] := List.getElem?_eq_getElem hn2
    generalize st.srvs[n] = r at q
    have hp : p[n]? = some p[n] := List.getElem?_eq_getElem (by omega)
    generalize p[n] = s at hp
    obtain ⟨h3, e0, e1⟩ := countN_step hp q
    have hl : n < (jmap (countN p st n)).length := by rw [jmap_len]; exact (List.getElem?_eq_some_iff.mp h3).1
    obtain ⟨wd, l, fl⟩ := r
    have same : (countS s ⟨wd, l, fl⟩).2 = none → jw (countS s ⟨wd, l, fl⟩).1.word = jw wd → Leg p (countN p st (n + 1)) := fun hc hw => by
      rw [e0 hc]
      refine ih.same rfl ?_
      rw [jmap_set, hw]
      exact set_same hl _ (jmap_get h3)
    cases wd
    · exact same rfl rfl
    · by_cases c : 0 < l - 1
      · exact same (by unfold countS; dsimp only; rw [if_pos c]) (by unfold countS; dsimp only; rw [if_pos c])
      · have hc : countS s ⟨.begins, l, fl⟩ = (⟨.up, 0, fl⟩, some .up) := if_neg c
        rw [e1 .up (by rw [hc])]
        refine ih.row (x := ⟨st.beats + 1, n, .up⟩) rfl (fun z => nomatch z) ?_ ?_
        · show decide ((jmap (countN p st n)).getD n .off = .begins) = true
          rw [jmap_get h3]
          rfl
        · show jmap (setSrv _ n _) = _
          rw [jmap_set, hc]
          rfl
    · exact same rfl rfl
    · by_cases c : 0 < l - 1
      · exact same (by unfold countS; dsimp only; rw [if_pos c]) (by unfold countS; dsimp only; rw [if_pos c])
      · have hc : countS s ⟨.ends, l, fl⟩ = (⟨.off, 0, fl⟩, some .off) := if_neg c
        rw [e1 .off (by rw [hc])]
        refine ih.row (x := ⟨st.beats + 1, n, .off⟩) rfl (fun z => nomatch z) ?_ ?_
        · show decide ((jmap (countN p st n)).getD n .off = .ends) = true
          rw [jmap_get h3]
          rfl
        · show jmap (setSrv _ n _) = _
          rw [jmap_set, hc]
          rfl
    · by_cases c : 0 < l - 1
      · exact same (by unfold countS; dsimp only; rw [if_pos c]) (by unfold countS; dsimp only; rw [if_pos c])
      · exact same (by unfold countS; dsimp only; rw [if_neg c]) (by unfold countS; dsimp only; rw [if_neg c]; rfl)
    · exact same rfl rfl
theorem Reach.trans {p : Pl} {a b c : Nat} (h : Reach p a b) (h2 : Reach p b c) : Reach p a c := by
  induction h2 with
  | one hx => exact .step h hx
  | step _ hx ih => exact .step ih hx
theorem Due.down {p : Pl} {st : Kst} {a b : Nat} (h : Due p st a) (hr : Reach p a b) : Due p st b := by
  rcases h with h | ⟨g, hg, h⟩
  · exact .inr ⟨a, h, hr⟩
  · exact .inr ⟨g, hg, h.trans hr⟩
theorem lacksK_iff {p : Pl} {st : Kst} (hs : Sound p) {i : Nat} : lacksK p st i = true ↔ ∃ j, Reach p i j ∧ wordAt st j ≠ .up := by
  unfold lacksK
  rw [List.any_eq_true]
  constructor
  · rintro ⟨j, hj, h⟩
    refine ⟨j, (allW_mem hs).mp hj, fun z => ?_⟩
    rw [decide_eq_true z] at h
    cases h
  · rintro ⟨j, hj, h⟩
    exact ⟨j, (allW_mem hs).mpr hj, by rw [decide_eq_false h]; rfl⟩
theorem lacksK_no {p : Pl} {st : Kst} (hs : Sound p) {i : Nat} (h : lacksK p st i = false) {j : Nat} (hj : Reach p i j) : wordAt st j = .up := Classical.byContradiction fun hn => by
  rw [(lacksK_iff hs).mpr ⟨j, hj, hn⟩] at h
  cases h
theorem lacksK_down {p : Pl} {st : Kst} (hs : Sound p) {i j : Nat} (h : lacksK p st i = false) (hj : Reach p i j) : lacksK p st j = false := by
  cases q : lacksK p st j with
  | false => rfl
  | true =>
    obtain ⟨k, hk, hn⟩ := (lacksK_iff hs).mp q
    exact absurd (lacksK_no hs h (hj.trans hk)) hn
/-- what begins, and what of what it wants does -/
theorem pick_begins {p : Pl} {st : Kst} (hs : Sound p) (hl : ∀ g ∈ st.goals, g < p.length) {i : Nat} (h : pickK p st i = some .begins) : wordAt st i = .off ∧ Due p st i ∧ lacksK p st i = false := by
  unfold pickK at h
  split at h
  · cases h
  · split at h
    · next c => exact ⟨c.1, (dueK_mem hs hl).mp c.2.1, c.2.2⟩
    · split at h <;> cases h
theorem pick_ends {p : Pl} {st : Kst} (hs : Sound p) (hl : ∀ g ∈ st.goals, g < p.length) {i : Nat} (h : pickK p st i = some .ends) : (wordAt st i = .begins ∨ wordAt st i = .up) ∧ (¬ Due p st i ∨ lacksK p st i = true) ∧ freeK p st i = true := by
  unfold pickK at h
  split at h
  · next c => exact ⟨c.1, c.2.1.imp (fun z y => z ((dueK_mem hs hl).mpr y)) id, c.2.2⟩
  · split at h
    · cases h
    · split at h <;> cases h
theorem pick_under {p : Pl} {st : Kst} (hs : Sound p) (hl : ∀ g ∈ st.goals, g < p.length) {i j : Nat} (h : pickK p st i = some .begins) (hj : Reach p i j) : wordAt st j = .up ∧ pickK p st j = none := by
  obtain ⟨_, hd, hn⟩ := pick_begins hs hl h
  have hu := lacksK_no hs hn hj
  refine ⟨hu, ?_⟩
  cases q : pickK p st j with
  | none => rfl
  | some w =>
    have hw := pickK_word q
    rw [hu] at hw
    rcases hw with ⟨rfl, _⟩ | ⟨_, z⟩ | ⟨_, z⟩
    · obtain ⟨_, z, _⟩ := pick_ends hs hl q
      rcases z with z | z
      · exact absurd (hd.down hj) z
      · rw [lacksK_down hs hn hj] at z
        cases z
    · cases z
    · cases z
theorem Leg.done {p : Pl} {st : Kst} (hs : Sound p) (h : Leg p st) (ho : KOk p st) : ∀ k, Leg p (doneN p ((chosenK p st).take k) st)
  | 0 => by
    rw [List.take_zero, doneN_nil]
    exact h
  | k + 1 => by
    have ih := Leg.done hs h ho k
    rw [List.take_add_one]
    cases hk : (chosenK p st)[k]? with
    | none => exact (List.append_nil ((chosenK p st).take k)).symm ▸ ih
    | some iw =>
      obtain ⟨i, wd⟩ := iw
      obtain ⟨hi, hpk⟩ := chosenK_mem.mp (List.mem_of_getElem? hk)
      have hi2 : i < st.srvs.length := by rw [ho.len]; exact hi
      have q : st.srvs[i]? = some st.srvs[i] := List.getElem?_eq_getElem hi2
      generalize st.srvs[i] = r at q
      have hp : p[i]? = some p[i] := List.getElem?_eq_getElem hi
      generalize p[i] = s at hp
      obtain ⟨h3, e1⟩ := doneN_step (w := wd) (chosenK_new hk) hp q
      show Leg p (doneN p ((chosenK p st).take k ++ [(i, wd)]) st)
      have hl : i < (jmap (doneN p ((chosenK p st).take k) st)).length := by rw [jmap_len]; exact (List.getElem?_eq_some_iff.mp h3).1
      -- how another service stands there
      have other : ∀ j, j < p.length → ∃ rj, st.srvs[j]? = some rj ∧ (jmap (doneN p ((chosenK p st).take k) st)).getD j .off = jw (doneS p ((chosenK p st).take k) j rj).word := fun j hj => by
        have hj2 : j < st.srvs.length := by rw [ho.len]; exact hj
        refine ⟨st.srvs[j], List.getElem?_eq_getElem hj2, jmap_get ?_⟩
        rw [doneN_get, List.getElem?_eq_getElem hj2]
        rfl
      have notin : ∀ j, pickK p st j = none → ∀ rj, doneS p ((chosenK p st).take k) j rj = rj := fun j hj rj => doneS_new fun x hx e => by
        obtain ⟨y, z⟩ := x
        have := (chosenK_mem.mp (List.mem_of_mem_take hx)).2
        rw [show y = j from e, hj] at this
        cases this
      have hwd := pickK_word hpk
      rw [wordAt_some q] at hwd
      rcases hwd with ⟨rfl, hw⟩ | ⟨rfl, hw⟩ | ⟨rfl, hw⟩
      · rw [e1]
        refine ih.row (x := ⟨st.beats, i, .ends⟩) rfl (fun z => nomatch z) ?_ ?_
        · show ((decide (_ = Lw.begins) || decide (_ = Lw.up)) && (wantedBy p i).all fun j => decide (_ = Lw.off)) = true
          rw [jmap_get h3, Bool.and_eq_true, List.all_eq_true]
          refine ⟨by rcases hw with hw | hw <;> rw [hw] <;> rfl, fun j hj => decide_eq_true ?_⟩
          have hjp := wantedBy_lt hj
          have hwant : i ∈ wantsOf p j := of_decide_eq_true (List.mem_filter.mp hj).2
          obtain ⟨rj, hrj, hg⟩ := other j hjp
          rw [hg]
          obtain ⟨_, hz, hfree⟩ := pick_ends hs ho.lt hpk
          have hjr : rj.word.runs = false := by
            have := List.all_eq_true.mp hfree j hj
            rw [wordAt_some hrj] at this
            cases q2 : rj.word.runs with
            | false => rfl
            | true => rw [q2] at this; cases this
          unfold doneS
          cases q3 : ((chosenK p st).take k).find? (fun x => decide (x.1 = j)) with
          | none =>
            show jw rj.word = .off
            cases hq : rj.word <;> rw [hq] at hjr <;> first | rfl | cases hjr
          | some x =>
            obtain ⟨y, z⟩ := x
            have hmem := List.mem_of_mem_take (List.mem_of_find?_eq_some q3)
            have hyj : y = j := of_decide_eq_true (List.find?_some (p := fun (x : Nat × Wd) => decide (x.1 = j)) q3)
            subst hyj
            have hpy := (chosenK_mem.mp hmem).2
            show jw (putS (svcAt p y) z rj).word = .off
            have hz2 := pickK_word hpy
            rw [wordAt_some hrj] at hz2
            rcases hz2 with ⟨rfl, c⟩ | ⟨rfl, c⟩ | ⟨rfl, c⟩
            · rcases c with c | c <;> rw [c] at hjr <;> cases hjr
            · -- it cannot begin while what it wants is shut
              have := (pick_under hs ho.lt hpy (.one hwant)).2
              rw [hpk] at this
              cases this
            · rfl
        · show jmap (setSrv (doneN p ((chosenK p st).take k) st) i (putS s .ends r)) = _
          rw [jmap_set]
          rfl
      · rw [e1]
        refine ih.row (x := ⟨st.beats, i, .begins⟩) rfl (fun z => nomatch z) ?_ ?_
        · show (decide (_ = Lw.off) && (wantsOf p i).all fun j => decide (_ = Lw.up)) = true
          rw [jmap_get h3, Bool.and_eq_true, List.all_eq_true]
          refine ⟨by rw [hw]; rfl, fun j hj => decide_eq_true ?_⟩
          obtain ⟨rj, hrj, hg⟩ := other j (hs.wants_lt hj)
          obtain ⟨hu, hno⟩ := pick_under hs ho.lt hpk (.one hj)
          rw [hg, notin j hno rj]
          rw [wordAt_some hrj] at hu
          rw [hu]
          rfl
        · show jmap (setSrv (doneN p ((chosenK p st).take k) st) i (putS s .begins r)) = _
          rw [jmap_set]
          rfl
      · rw [e1]
        refine ih.same (by show strip (_ ++ []) = _; rw [List.append_nil]) ?_
        show jmap (setSrv (doneN p ((chosenK p st).take k) st) i (putS s .off r)) = _
        rw [jmap_set]
        exact set_same hl _ (by rw [jmap_get h3, hw]; rfl)
theorem Leg.beat {p : Pl} {st : Kst} (hs : Sound p) (h : Leg p st) (ho : KOk p st) : Leg p (beatK p st) := by
  have h1 := h.count ho p.length (Nat.le_refl _)
  have h2 := Leg.done (k := (chosenK p (countK p st)).length) hs h1 (ho.count hs p.length)
  rw [show (chosenK p (countN p st p.length)).take (chosenK p (countK p st)).length = chosenK p (countK p st) from List.take_length] at h2
  exact h2
end Kr

namespace Kr
open PySem Dl
/-! ### k09: the service that wants nothing -/
noncomputable def itK (p : Pl) : Nat → Kst → Kst
  | 0, st => st
  | n + 1, st => beatK p (itK p n st)
theorem itK_ok {p : Pl} {st : Kst} (hs : Sound p) (h : KOk p st) : ∀ n, KOk p (itK p n st)
  | 0 => h
  | n + 1 => (itK_ok hs h n).beat hs
theorem itK_goals {p : Pl} {st : Kst} : ∀ n, (itK p n st).goals = st.goals
  | 0 => rfl
  | n + 1 => (show (itK p n st).goals = _ from itK_goals n)
theorem itK_rows {p : Pl} {st : Kst} : ∀ n, (itK p n st).rows.length ≤ st.rows.length + 2 * p.length * n
  | 0 => Nat.le_refl _
  | n + 1 => by
    have h1 := itK_rows (p := p) (st := st) n
    have h2 := rows_beat (p := p) (st := itK p n st)
    show (beatK p (itK p n st)).rows.length ≤ _
    rw [Nat.mul_succ]
    omega
def step0 (s : Svc) (r : Srv) : Srv := if (countS s r).1.word = .off then putS s .begins (countS s r).1 else (countS s r).1
def itS (s : Svc) : Nat → Srv → Srv
  | 0, r => r
  | n + 1, r => step0 s (itS s n r)
/-- the service 0 wants nothing and is to run -/
structure D0 (p : Pl) (st : Kst) : Prop where
  no : ∀ x, ¬ Reach p 0 x
  due : Due p st 0
  pos : 0 < p.length
theorem Due.goals {p : Pl} {st st' : Kst} {k : Nat} (h : st'.goals = st.goals) : Due p st' k ↔ Due p st k := by unfold Due; rw [h]
open Classical in
theorem pick0 {p : Pl} {st : Kst} (hs : Sound p) (h : D0 p st) : pickK p st 0 = if wordAt st 0 = .off then some .begins else none := by
  have hd : 0 ∈ dueK p st := by
    unfold dueK
    exact List.mem_filter.mpr ⟨List.mem_range.mpr h.pos, decide_eq_true h.due⟩
  have hl : lacksK p st 0 = false := by
    cases q : lacksK p st 0 with
    | false => rfl
    | true =>
      obtain ⟨j, hj, _⟩ := (lacksK_iff hs).mp q
      exact absurd hj (h.no j)
  unfold pickK
  rw [if_neg (by rintro ⟨_, z, _⟩; rcases z with z | z; exact z hd; rw [hl] at z; cases z)]
  by_cases c : wordAt st 0 = .off
  · rw [if_pos ⟨c, hd, hl⟩, if_pos c]
  · rw [if_neg (fun z => c z.1), if_neg (fun z => z.2 hd), if_neg c]
theorem D0.count {p : Pl} {st : Kst} (h : D0 p st) : D0 p (countK p st) := ⟨h.no, (Due.goals rfl).mpr h.due, h.pos⟩
theorem D0.it {p : Pl} {st : Kst} (h : D0 p st) (n : Nat) : D0 p (itK p n st) := ⟨h.no, (Due.goals (itK_goals n)).mpr h.due, h.pos⟩
theorem beat_0 {p : Pl} {st : Kst} {s : Svc} {r : Srv} (hs : Sound p) (h : D0 p st) (h2 : p[0]? = some s) (h3 : st.srvs[0]? = some r) : (beatK p st).srvs[0]? = some (step0 s r) := by
  obtain ⟨b1, b2⟩ := beat_get h2 h3
  rw [b2, pick0 hs h.count, wordAt_some b1]
  unfold step0
  by_cases c : (countS s r).1.word = .off
  · rw [if_pos c, if_pos c]
  · rw [if_neg c, if_neg c]
theorem it_0 {p : Pl} {st : Kst} {s : Svc} {r : Srv} (hs : Sound p) (h : D0 p st) (h2 : p[0]? = some s) (h3 : st.srvs[0]? = some r) : ∀ n, (itK p n st).srvs[0]? = some (itS s n r)
  | 0 => h3
  | n + 1 => beat_0 hs (h.it n) h2 (it_0 hs h h2 h3 n)
/-- how often it began -/
def isB (r : LRow) : Bool := decide (r.num = 0) && decide (r.word = .begins)
def nbs (rows : List LRow) : Nat := (rows.filter isB).length
theorem nbs_app {a b : List LRow} : nbs (a ++ b) = nbs a + nbs b := by unfold nbs; rw [List.filter_append, List.length_append]
theorem nb_beat {p : Pl} {st : Kst} {s : Svc} {r : Srv} (hs : Sound p) (hl : p.length = 2) (h : D0 p st) (h2 : p[0]? = some s) (h3 : st.srvs[0]? = some r) : nbs (beatK p st).rows = nbs st.rows + (if (countS s r).1.word = .off then 1 else 0) := by
  have e0 : nbs (countK p st).rows = nbs st.rows := by
    show nbs (st.rows ++ (List.range p.length).filterMap (toldS p st)) = _
    rw [nbs_app]
    have : ((List.range p.length).filterMap (toldS p st)).filter isB = [] := by
      rw [List.filter_eq_nil_iff]
      intro x hx z
      obtain ⟨i, hi, e⟩ := List.mem_filterMap.mp hx
      unfold toldS at e
      cases q : (countS (svcAt p i) (srvAt st i)).2 with
      | none => rw [q] at e; cases e
      | some w =>
        rw [q] at e
        cases e
        have hw : w = .begins := of_decide_eq_true ((Bool.and_eq_true _ _).mp z).2
        subst hw
        generalize srvAt st i = rr at q
        obtain ⟨wd, l, fl⟩ := rr
        cases wd <;> unfold countS at q <;> dsimp only at q
        · cases q
        · split at q <;> cases q
        · cases q
        · split at q <;> cases q
        · split at q <;> cases q
        · cases q
    show nbs st.rows + (List.filter isB _).length = _
    rw [this]
    rfl
  show nbs ((countK p st).rows ++ (chosenK p (countK p st)).filterMap (rowOf (st.beats + 1))) = _
  rw [nbs_app, e0]
  congr 1
  have hp0 := pick0 hs h.count
  rw [wordAt_some (beat_get h2 h3).1] at hp0
  unfold chosenK
  rw [hl]
  show nbs ((([0, 1] : List Nat).filterMap fun i => (pickK p (countK p st) i).map fun w => (i, w)).filterMap (rowOf (st.beats + 1))) = _
  have one : ∀ l : List (Nat × Wd), (∀ x ∈ l, x.1 = 1) → nbs (l.filterMap (rowOf (st.beats + 1))) = 0 := fun l hl => by
    unfold nbs
    rw [List.length_eq_zero_iff, List.filter_eq_nil_iff]
    intro x hx z
    obtain ⟨y, hy, e⟩ := List.mem_filterMap.mp hx
    have h1 := hl y hy
    obtain ⟨n, w⟩ := y
    have hz : x.num = 0 := of_decide_eq_true ((Bool.and_eq_true _ _).mp z).1
    unfold rowOf at e
    split at e <;> cases e
    · cases hz.symm.trans h1
    · cases hz.symm.trans h1
  have tail : ∀ x ∈ (([1] : List Nat).filterMap fun i => (pickK p (countK p st) i).map fun w => (i, w)), x.1 = 1 := fun x hx => by
    obtain ⟨i, hi, e⟩ := List.mem_filterMap.mp hx
    rw [List.mem_singleton.mp hi] at e
    cases q : pickK p (countK p st) 1 with
    | none => rw [q] at e; cases e
    | some w => rw [q] at e; cases e; rfl
  by_cases c : (countS s r).1.word = .off
  · rw [if_pos c] at hp0
    rw [if_pos c, List.filterMap_cons_some (b := (0, Wd.begins)) (by rw [hp0]; rfl)]
    rw [List.filterMap_cons_some (f := rowOf (st.beats + 1)) (a := (0, Wd.begins)) (b := (⟨st.beats + 1, 0, .begins⟩ : LRow)) rfl]
    rw [show ∀ (x : LRow) (l : List LRow), x :: l = [x] ++ l from fun _ _ => rfl, nbs_app, one _ tail]
    rfl
  · rw [if_neg c] at hp0
    rw [if_neg c, List.filterMap_cons_none (by rw [hp0]; rfl)]
    exact one _ tail
theorem nb_run {p : Pl} {st : Kst} {s : Svc} {r : Srv} (hs : Sound p) (hl : p.length = 2) (h : D0 p st) (h2 : p[0]? = some s) (h3 : st.srvs[0]? = some r) : ∀ n, (∀ i, i < n → (countS s (itS s i r)).1.word ≠ .off) → nbs (itK p n st).rows = nbs st.rows
  | 0, _ => rfl
  | n + 1, hn => by
    show nbs (beatK p (itK p n st)).rows = _
    rw [nb_beat hs hl (h.it n) h2 (it_0 hs h h2 h3 n), if_neg (hn n (Nat.lt_succ_self n)), nb_run hs hl h h2 h3 n fun i hi => hn i (by omega)]
    rfl
theorem nb_last {p : Pl} {st : Kst} {s : Svc} {r : Srv} (hs : Sound p) (hl : p.length = 2) (h : D0 p st) (h2 : p[0]? = some s) (h3 : st.srvs[0]? = some r) {n : Nat} (hn : ∀ i, i < n → (countS s (itS s i r)).1.word ≠ .off) (hc : (countS s (itS s n r)).1.word = .off) : nbs (itK p (n + 1) st).rows = nbs st.rows + 1 := by
  show nbs (beatK p (itK p n st)).rows = _
  rw [nb_beat hs hl (h.it n) h2 (it_0 hs h h2 h3 n), if_pos hc, nb_run hs hl h h2 h3 n hn]
/-! its going -/
theorem count_begins {s : Svc} {l f : Int} : (countS s ⟨.begins, l, f⟩).1 = if 0 < l - 1 then ⟨.begins, l - 1, f⟩ else ⟨.up, 0, f⟩ := by
  unfold countS
  dsimp only
  split <;> rfl
theorem count_again {s : Svc} {l f : Int} : (countS s ⟨.again, l, f⟩).1 = if 0 < l - 1 then ⟨.again, l - 1, f⟩ else ⟨.off, 0, f⟩ := by
  unfold countS
  dsimp only
  split <;> rfl
theorem begins_run {s : Svc} {L : Nat} {f : Int} : ∀ i, i < L → itS s i ⟨.begins, (L : Int), f⟩ = ⟨.begins, (L : Int) - (i : Int), f⟩
  | 0, _ => by show Srv.mk _ _ _ = _; rw [show (L : Int) - ((0 : Nat) : Int) = L by omega]
  | i + 1, h => by
    show step0 s (itS s i _) = _
    rw [begins_run i (by omega)]
    unfold step0
    rw [count_begins, if_pos (show (0 : Int) < (L : Int) - (i : Int) - 1 by omega), if_neg (fun z => nomatch z)]
    rw [show (L : Int) - (i : Int) - 1 = (L : Int) - ((i + 1 : Nat) : Int) by omega]
theorem begins_end {s : Svc} {L : Nat} {f : Int} (h : 1 ≤ L) : itS s L ⟨.begins, (L : Int), f⟩ = ⟨.up, 0, f⟩ := by
  obtain ⟨m, rfl⟩ : ∃ m, L = m + 1 := ⟨L - 1, by omega⟩
  show step0 s (itS s m _) = _
  rw [begins_run m (by omega)]
  unfold step0
  rw [count_begins, if_neg (show ¬ (0 : Int) < ((m + 1 : Nat) : Int) - (m : Int) - 1 by omega), if_neg (fun z => nomatch z)]
theorem begins_quiet {s : Svc} {L : Nat} {f : Int} {i : Nat} (h : i < L) : (countS s (itS s i ⟨.begins, (L : Int), f⟩)).1.word ≠ .off := by
  rw [begins_run i h, count_begins]
  split <;> exact fun z => nomatch z
theorem up_run {s : Svc} {f : Int} {S : Nat} (hS : s.stays = (S : Int)) : ∀ i, i ≤ S → itS s i ⟨.up, 0, f⟩ = ⟨.up, (i : Int), if 0 < i ∧ i = S then 0 else f⟩
  | 0, _ => by rw [if_neg (fun z => Nat.lt_irrefl 0 z.1)]; rfl
  | i + 1, h => by
    show step0 s (itS s i _) = _
    rw [up_run hS i (by omega), if_neg (fun z => by omega)]
    show (if (Wd.up = Wd.off) then _ else (⟨.up, (i : Int) + 1, if (i : Int) + 1 = s.stays then 0 else f⟩ : Srv)) = _
    rw [if_neg (fun z => nomatch z), hS]
    have e : ((i : Int) + 1 = (S : Int)) ↔ (0 < i + 1 ∧ i + 1 = S) := by omega
    simp only [e]
    rfl
theorem up_quiet {s : Svc} {f : Int} {S i : Nat} (hS : s.stays = (S : Int)) (h : i ≤ S) : (countS s (itS s i ⟨.up, 0, f⟩)).1.word ≠ .off := by
  rw [up_run hS i h]
  exact fun z => nomatch z
theorem again_run {s : Svc} {L : Nat} {f : Int} : ∀ i, i < L → itS s i ⟨.again, (L : Int), f⟩ = ⟨.again, (L : Int) - (i : Int), f⟩
  | 0, _ => by show Srv.mk _ _ _ = _; rw [show (L : Int) - ((0 : Nat) : Int) = L by omega]
  | i + 1, h => by
    show step0 s (itS s i _) = _
    rw [again_run i (by omega)]
    unfold step0
    rw [count_again, if_pos (show (0 : Int) < (L : Int) - (i : Int) - 1 by omega), if_neg (fun z => nomatch z)]
    rw [show (L : Int) - (i : Int) - 1 = (L : Int) - ((i + 1 : Nat) : Int) by omega]
theorem again_end {s : Svc} {L : Nat} {f : Int} (h : 1 ≤ L) : itS s L ⟨.again, (L : Int), f⟩ = ⟨.begins, s.takes, f⟩ := by
  obtain ⟨m, rfl⟩ : ∃ m, L = m + 1 := ⟨L - 1, by omega⟩
  show step0 s (itS s m _) = _
  rw [again_run m (by omega)]
  unfold step0
  rw [count_again, if_neg (show ¬ (0 : Int) < ((m + 1 : Nat) : Int) - (m : Int) - 1 by omega), if_pos rfl]
  rfl
theorem again_quiet {s : Svc} {L : Nat} {f : Int} {i : Nat} (h : i + 1 < L) : (countS s (itS s i ⟨.again, (L : Int), f⟩)).1.word ≠ .off := by
  rw [again_run i (by omega), count_again, if_pos (by omega)]
  exact fun z => nomatch z
theorem again_last {s : Svc} {L : Nat} {f : Int} (h : 1 ≤ L) : (countS s (itS s (L - 1) ⟨.again, (L : Int), f⟩)).1.word = .off := by
  rw [again_run _ (by omega), count_again, if_neg (by omega)]
theorem given_run {s : Svc} {l f : Int} : ∀ i, itS s i ⟨.given, l, f⟩ = ⟨.given, l, f⟩
  | 0 => rfl
  | i + 1 => by
    show step0 s (itS s i _) = _
    rw [given_run i]
    rfl
theorem wait_pow {w : Int} (h0 : 0 ≤ w) (h : w ≤ 600) : ∀ n, waitF w n = min 600 (w * 2 ^ n)
  | 0 => by show w = _; rw [Int.pow_zero, Int.mul_one]; omega
  | n + 1 => by
    show min 600 (2 * waitF w n) = _
    rw [wait_pow h0 h n, Int.pow_succ]
    have : w * (2 ^ n * 2) = 2 * (w * 2 ^ n) := by rw [← Int.mul_assoc, Int.mul_comm]
    rw [this]
    omega
end Kr

namespace Kr
open PySem Dl
/-! ### how often a service may begin: what the table holds -/
abbrev Mr := Int × List Int
def mrD (e : Mr) : PyData := .tuple [.int e.1, .tuple (e.2.map PyData.int)]
abbrev Mt := List (List Int × Mr)
def tbD (kv : Mt) : List (List Int × PyData) := kv.map fun x => (x.1, mrD x.2)
def lookM (kv : Mt) (k : List Int) : Option Mr := (kv.find? fun x => decide (x.1 = k)).map (·.2)
def storeM (kv : Mt) (k : List Int) (e : Mr) : Mt := if (kv.any fun x => decide (x.1 = k)) = true then kv.map (fun x => if x.1 = k then (x.1, e) else x) else kv ++ [(k, e)]
theorem look_tb (kv : Mt) (k : List Int) : lookT (tbD kv) k = (lookM kv k).map mrD := by
  unfold lookT lookM tbD
  induction kv with
  | nil => rfl
  | cons x r ih =>
    rw [List.map_cons, List.find?_cons, List.find?_cons]
    show ((match decide (x.1 = k) with | true => _ | false => _) : Option _).map _ = _
    cases decide (x.1 = k) with
    | true => rfl
    | false => exact ih
theorem store_tb (kv : Mt) (k : List Int) (e : Mr) : storeT (tbD kv) k (mrD e) = tbD (storeM kv k e) := by
  unfold storeT storeM tbD
  have ha : ((kv.map fun x => (x.1, mrD x.2)).any fun x => decide (x.1 = k)) = kv.any fun x => decide (x.1 = k) := by rw [List.any_map]; rfl
  rw [ha]
  split
  · rw [List.map_map, List.map_map]
    refine List.map_congr_left fun x _ => ?_
    show (if x.1 = k then (x.1, mrD e) else (x.1, mrD x.2)) = _
    show _ = ((if x.1 = k then (x.1, e) else x : List Int × Mr).1, mrD (if x.1 = k then (x.1, e) else x : List Int × Mr).2)
    split <;> rfl
  · rw [List.map_append]; rfl
theorem tb_len (kv : Mt) : (tbD kv).length = kv.length := List.length_map _
theorem store_len (kv : Mt) (k : List Int) (e : Mr) : (storeM kv k e).length ≤ kv.length + 1 := by
  unfold storeM
  split
  · rw [List.length_map]; omega
  · rw [List.length_append]; exact Nat.le_refl _
theorem store_mem {kv : Mt} {k : List Int} {e : Mr} {x : List Int × Mr} (h : x ∈ storeM kv k e) : x.2 = e ∨ x ∈ kv := by
  unfold storeM at h
  split at h
  · obtain ⟨y, hy, rfl⟩ := List.mem_map.mp h
    split
    · exact .inl rfl
    · exact .inr hy
  · rcases List.mem_append.mp h with h | h
    · exact .inr h
    · rw [List.mem_singleton.mp h]; exact .inl rfl
theorem look_mem {kv : Mt} {k : List Int} {e : Mr} (h : lookM kv k = some e) : ∃ x ∈ kv, x.2 = e ∧ x.1 = k := by
  unfold lookM at h
  cases q : kv.find? fun x => decide (x.1 = k) with
  | none => rw [q] at h; cases h
  | some x =>
    rw [q] at h
    cases h
    exact ⟨x, List.mem_of_find?_eq_some q, rfl, of_decide_eq_true (List.find?_some (p := fun x : List Int × Mr => decide (x.1 = k)) q)⟩
theorem lookM_find (kv : Mt) (k : List Int) : lookM kv k = (kv.find? fun x => decide (x.1 = k)).map (·.2) := rfl
theorem look_store (kv : Mt) (k j : List Int) (e : Mr) : lookM (storeM kv k e) j = if j = k then some e else lookM kv j := by
  unfold storeM
  by_cases ha : (kv.any fun x => decide (x.1 = k)) = true
  · rw [if_pos ha]
    have : ∀ l : Mt, (l.any fun x => decide (x.1 = k)) = true ∨ j ≠ k → lookM (l.map fun x => if x.1 = k then (x.1, e) else x) j = if j = k then some e else lookM l j := fun l => by
      induction l with
      | nil =>
        rintro (h | h)
        · cases h
        · rw [if_neg h]; rfl
      | cons y r ih =>
        intro h
        unfold lookM
        rw [List.map_cons, List.find?_cons, List.find?_cons]
        by_cases hy : y.1 = k
        · rw [if_pos hy]
          by_cases hj : j = k
          · rw [if_pos hj]
            simp [hy, hj]
          · rw [if_neg hj]
            have h1 : decide (y.1 = j) = false := decide_eq_false fun z => hj (z.symm.trans hy)
            rw [h1]
            have := ih (.inr hj)
            rw [if_neg hj] at this
            exact this
        · rw [if_neg hy]
          by_cases hj : y.1 = j
          · have h1 : decide (y.1 = j) = true := decide_eq_true hj
            rw [h1]
            rw [if_neg (fun z => hy (hj.trans z))]
          · have h1 : decide (y.1 = j) = false := decide_eq_false hj
            rw [h1]
            refine ih (h.imp (fun h => ?_) id)
            rw [List.any_cons, Bool.or_eq_true] at h
            exact h.elim (fun z => absurd (of_decide_eq_true z) hy) id
    exact this kv (.inl ha)
  · rw [if_neg ha]
    unfold lookM
    rw [List.find?_append]
    have hn : ∀ x ∈ kv, x.1 ≠ k := fun x hx z => ha (List.any_eq_true.mpr ⟨x, hx, decide_eq_true z⟩)
    by_cases hj : j = k
    · subst hj
      rw [if_pos rfl, List.find?_eq_none.mpr fun x hx z => hn x hx (of_decide_eq_true z)]
      simp
    · rw [if_neg hj]
      have : List.find? (fun x : List Int × Mr => decide (x.1 = j)) [(k, e)] = none := by
        rw [List.find?_eq_none]
        intro x hx z
        rw [List.mem_singleton.mp hx] at z
        exact hj (of_decide_eq_true z).symm
      rw [this]
      cases kv.find? fun x => decide (x.1 = j) <;> rfl
/-- a fall at when, the more'th in a row: what the table tells of the begin behind it -/
def optM (s : Svc) (kv : Mt) (w : Int) (more : Nat) : Option Mr :=
  if (more : Int) < s.tries then (lookM kv [w + waitF s.waits (more - 1), (more : Int)]).map fun e => (1 + e.1, w :: e.2) else none
def bestM (x : Mr) (xs : List Mr) : Mr := xs.foldl (fun a y => if PySem.W.dataLt (mrD a) (mrD y) then y else a) x
theorem maxD_mr (x : Mr) (xs : List Mr) : PySem.W.maxD (mrD x) (xs.map mrD) = mrD (bestM x xs) := by
  unfold PySem.W.maxD bestM
  induction xs generalizing x with
  | nil => rfl
  | cons y r ih =>
    rw [List.map_cons, List.foldl_cons, List.foldl_cons]
    cases h : PySem.W.dataLt (mrD x) (mrD y) with
    | true => rw [if_pos rfl, if_pos rfl]; exact ih y
    | false => rw [if_neg Bool.false_ne_true, if_neg Bool.false_ne_true]; exact ih x
theorem bestM_mem (x : Mr) (xs : List Mr) : bestM x xs ∈ x :: xs := by
  unfold bestM
  induction xs generalizing x with
  | nil => exact List.mem_cons_self ..
  | cons y r ih =>
    rw [List.foldl_cons]
    split
    · exact List.mem_cons_of_mem _ (ih y)
    · rcases List.mem_cons.mp (ih x) with h | h
      · rw [h]; exact List.mem_cons_self ..
      · exact List.mem_cons_of_mem _ (List.mem_cons_of_mem _ h)
def candM (s : Svc) (kv : Mt) (beat : Int) (falls : Nat) : List Mr := (optM s kv beat (falls + 1)).toList ++ (optM s kv (beat + s.takes + s.stays) 1).toList
def bestF (s : Svc) (kv : Mt) (beat : Int) (falls : Nat) : Mr := bestM (1, []) (candM s kv beat falls)
/-- the table behind n beats, from the last one backward, and m falls of the next -/
def rowM (s : Svc) (kv : Mt) (beat : Int) : Nat → Mt
  | 0 => kv
  | m + 1 => storeM (rowM s kv beat m) [beat, (m : Int)] (bestF s (rowM s kv beat m) beat m)
def tabM (s : Svc) (beats : Nat) : Nat → Mt
  | 0 => []
  | n + 1 => rowM s (tabM s beats n) ((beats : Int) - (n : Int)) s.tries.toNat
def mostF (s : Svc) (beats : Nat) : Mr := (lookM (tabM s beats beats) [1, 0]).getD (0, [])
/-- rows in the table are short -/
def ShortM (kv : Mt) (n : Nat) : Prop := kv.length ≤ n ∧ ∀ x ∈ kv, x.2.2.length ≤ n
theorem opt_row {s : Svc} {kv : Mt} {w : Int} {more n : Nat} {e : Mr} (h : ShortM kv n) (he : optM s kv w more = some e) : e.2.length ≤ n + 1 := by
  unfold optM at he
  split at he
  · cases q : lookM kv [w + waitF s.waits (more - 1), (more : Int)] with
    | none => rw [q] at he; cases he
    | some e0 =>
      rw [q] at he
      cases he
      obtain ⟨x, hx, hxe, _⟩ := look_mem q
      have := h.2 x hx
      rw [hxe] at this
      exact Nat.succ_le_succ this
  · cases he
theorem cand_row {s : Svc} {kv : Mt} {beat : Int} {falls n : Nat} (h : ShortM kv n) : ∀ e ∈ candM s kv beat falls, e.2.length ≤ n + 1 := fun e he => by
  unfold candM at he
  rcases List.mem_append.mp he with he | he
  · exact opt_row h (Option.mem_toList.mp he)
  · exact opt_row h (Option.mem_toList.mp he)
theorem best_row {s : Svc} {kv : Mt} {beat : Int} {falls n : Nat} (h : ShortM kv n) : (bestF s kv beat falls).2.length ≤ n + 1 := by
  rcases List.mem_cons.mp (bestM_mem (1, []) (candM s kv beat falls)) with e | e
  · show (bestM _ _).2.length ≤ _
    rw [e]
    exact Nat.zero_le _
  · exact cand_row h _ e
theorem ShortM.store {s : Svc} {kv : Mt} {beat : Int} {falls n : Nat} {k : List Int} (h : ShortM kv n) : ShortM (storeM kv k (bestF s kv beat falls)) (n + 1) := by
  refine ⟨Nat.le_trans (store_len ..) (Nat.succ_le_succ h.1), fun x hx => ?_⟩
  rcases store_mem hx with e | e
  · rw [e]; exact best_row h
  · exact Nat.le_succ_of_le (h.2 x e)
theorem ShortM.row {s : Svc} {kv : Mt} {beat : Int} {n : Nat} (h : ShortM kv n) : ∀ m, ShortM (rowM s kv beat m) (n + m)
  | 0 => h
  | m + 1 => (ShortM.row h m).store
theorem ShortM.tab (s : Svc) (beats : Nat) (ht : s.tries.toNat ≤ 9) : ∀ n, ShortM (tabM s beats n) (9 * n)
  | 0 => ⟨Nat.le_refl _, fun x hx => nomatch hx⟩
  | n + 1 => by
    have := (ShortM.tab s beats ht n).row (s := s) (beat := (beats : Int) - (n : Int)) s.tries.toNat
    exact ⟨Nat.le_trans this.1 (by omega), fun x hx => Nat.le_trans (this.2 x hx) (by omega)⟩
theorem most_row (s : Svc) (beats : Nat) (ht : s.tries.toNat ≤ 9) : (mostF s beats).2.length ≤ 9 * beats := by
  unfold mostF
  cases q : lookM (tabM s beats beats) [1, 0] with
  | none => exact Nat.zero_le _
  | some e =>
    obtain ⟨x, hx, hxe, _⟩ := look_mem q
    have := (ShortM.tab s beats ht beats).2 x hx
    rw [hxe] at this
    exact this
/-! such data can be compared -/
theorem alike_ints : ∀ (a b : List Int), PySem.W.alikeAll (a.map PyData.int) (b.map PyData.int) = true
  | [], _ => by simp [PySem.W.alikeAll]
  | _ :: _, [] => by simp [PySem.W.alikeAll]
  | x :: a, y :: b => by
    rw [List.map_cons, List.map_cons, PySem.W.alikeAll, alike_ints a b]
    simp [PySem.W.alike]
theorem alike_mr (a b : Mr) : PySem.W.alike (mrD a) (mrD b) = true := by
  unfold mrD
  simp [PySem.W.alike, PySem.W.alikeAll, alike_ints]
theorem alike_mrs (xs : List Mr) : PySem.W.AlikeAll (xs.map mrD) := ⟨fun x hx y hy => by
    obtain ⟨a, _, rfl⟩ := List.mem_map.mp hx
    obtain ⟨b, _, rfl⟩ := List.mem_map.mp hy
    exact alike_mr a b, fun x hx e => by
    obtain ⟨a, _, rfl⟩ := List.mem_map.mp hx
    cases e⟩
theorem depth_ints : ∀ a : List Int, PyData.depthAll (a.map PyData.int) ≤ 3
  | [] => by simp [PyData.depthAll]
  | x :: a => by
    have := depth_ints a
    rw [List.map_cons, PyData.depthAll, PyData.depth]
    omega
theorem depth_mrs : ∀ xs : List Mr, PyData.depthAll (xs.map mrD) ≤ 60
  | [] => by simp [PyData.depthAll]
  | e :: xs => by
    have h1 := depth_mrs xs
    have h2 := depth_ints e.2
    rw [List.map_cons, PyData.depthAll]
    have h3 : (mrD e).depth ≤ 20 := by
      unfold mrD
      simp only [PyData.depth, PyData.depthAll]
      omega
    omega
end Kr

local macro_rules | `(tactic| fail "kb1") => `(tactic| first
  | fail "krn"
  | ((with_reducible show Dl.EvS _ (L2.tVar _) _ _); first | with_reducible refine Dl.ev_pu rfl ?_ | with_reducible refine Dl.ev_alK rfl ?_ | with_reducible refine Dl.ev_al rfl ?_)
  | ((with_reducible show Dl.EvS _ (L2.tDIn _ _) _ _); with_reducible refine Dl.ev_tin ?_)
  | ((with_reducible show Dl.EvS _ (L2.tCB (Rk.rMaxD _) _) _ _); with_reducible refine Dl.ev_maxD ?_)
  | fail "kr1")
local macro_rules | `(tactic| fail "kb") => `(tactic| repeat fail "kb1")
namespace Kr
open PySem PySem.Spec PyProof.Rows L2 Dl
open Evl (Ex)
section
variable {P : Program} {w : World} {K : PySem.W.Frag} {mg : Str → Option Value} {base : Heap}
structure SvOk (s : Svc) : Prop where
  takes : 1 ≤ s.takes ∧ s.takes ≤ 20
  waits : 1 ≤ s.waits ∧ s.waits ≤ 20
  stays : 1 ≤ s.stays ∧ s.stays ≤ 50
  tries : 1 ≤ s.tries ∧ s.tries ≤ 9
def pBest (ds : List PyData) (kvs : List (List Int × PyData)) : Prop := ∃ (s : Svc) (beat falls : Nat) (kv : Mt) (n : Nat), ds = [svcD s, .int (beat : Int), .int (falls : Int)] ∧ kvs = tbD kv ∧ SvOk s ∧ ShortM kv n ∧ n ≤ 10000 ∧ falls ≤ 9 ∧ beat ≤ 300
def tBest (ds : List PyData) (kvs : List (List Int × PyData)) (z : PyData) : Prop := ∀ (s : Svc) (beat falls : Nat) (kv : Mt), ds = [svcD s, .int (beat : Int), .int (falls : Int)] → kvs = tbD kv → z = mrD (bestF s kv beat falls)
theorem tbD_inj {a b : Mt} (h : tbD a = tbD b) : a = b := by
  have hm : ∀ x y : Mr, mrD x = mrD y → x = y := by
    rintro ⟨x1, x2⟩ ⟨y1, y2⟩ e
    simp only [mrD, PyData.tuple.injEq, List.cons.injEq, PyData.int.injEq, and_true] at e
    obtain ⟨rfl, e⟩ := e
    rw [(List.map_inj_right fun _ _ z => PyData.int.inj z).mp e]
  exact (List.map_inj_right (f := fun x : List Int × Mr => (x.1, mrD x.2)) (by
    rintro ⟨x1, x2⟩ ⟨y1, y2⟩ e
    have e1 := congrArg Prod.fst e
    have e2 := congrArg Prod.snd e
    rw [show x1 = y1 from e1, hm x2 y2 e2])).mp h
theorem ok_best_from (D : Df K mg "best_from" s_best_from ["service", "beat", "falls", "known"]) (B : Bn mg) (c_wait_of : Cal P w K mg base 1 "wait_of" (spP K 2 pWait tWait)) : Cal P w K mg base 2 "best_from" (spDc K 3 pBest tBest) := by
  have nd := sc_best_from.nd
  refine calDc D sc_best_from rfl fun f cdv A outer st H E hr => ⟨_, (pss_cons (ps_set (i := 4) nd rfl (Or.inl rfl) (pe_op op_add (pe_op op_add (pv 1) (pe_ix (Kk.ix_tup (K := K)) (pv 0) pe_int (fun _ _ => rfl))) (pe_ix (Kk.ix_tup (K := K)) (pv 0) pe_int (fun _ _ => rfl))))
      (pss_cons (ps_set (i := 5) nd rfl (Or.inl rfl) (pe_lst (pa_cons (pe_tup (pa_cons pe_int (pa_cons (pe_tup pa_nil) pa_nil))) pa_nil)))
      (pss_cons (ps_for PassesOwn.never rfl (Kk.pi_tup (K := K) (pe_tup (pa_cons (pe_tup (pa_cons (pv 1) (pa_cons (pe_op op_add (pv 2) pe_int) pa_nil))) (pa_cons (pe_tup (pa_cons (pv 4) (pa_cons pe_int pa_nil))) pa_nil)))) (Kk.pg_tup (K := K) (n := 2) (by rfl) (pgs_cons (pg_name (i := 6) nd rfl (Or.inl rfl)) (pgs_cons (pg_name (i := 7) nd rfl (Or.inl rfl)) pgs_nil))) (pss_cons (ps_set (i := 8) nd rfl (Or.inl rfl) (pe_tup (pa_cons (pe_op op_add (pv 6) (Dl.pe_c c_wait_of hr (pa_cons (pv 0) (pa_cons (pv 7) pa_nil)))) (pa_cons (pv 7) pa_nil))))
      (pss_one (ps_if (PW.pt (pw_and (pt_cmpR op_lt (pv 7) (pe_ix (Kk.ix_tup (K := K)) (pv 0) pe_int (fun _ _ => rfl)) (nomark _)) (pw_and1 (pt_cmp (pc_din (Kk.hu hr) (pv 8) (pv 3)))))) (pss_cons (ps_asg (pe_dget (Kk.hu hr) (pv 3) (pv 8) (fun _ _ => rfl)) (Kk.pg_tup (K := K) (n := 2) (by rfl) (pgs_cons (pg_name (i := 9) nd rfl (Or.inl rfl)) (pgs_cons (pg_name (i := 10) nd rfl (Or.inl rfl)) pgs_nil))))
      (pss_one (ps_expr (Kk.pe_bm (K := K) PySem.F.plainAttrs_list PySem.F.slot_list_append PySem.F.type_list_append mt_append (pv 5) (pa_cons (pe_tup (pa_cons (pe_op op_add pe_int (pv 9)) (pa_cons (pe_op (Kk.op_catA (K := K)) (pe_tup (pa_cons (pv 6) pa_nil)) (pv 10)) pa_nil))) pa_nil))))) pss_nil))))
      (pss_one (ps_ret (pe_callB (Kk.cr_maxD (K := K) rfl hr.units) (by rfl) B.max (by decide +kernel) (pa_cons (pv 5) pa_nil))))))), fun ds kvs hn hp => ?_⟩
  obtain ⟨s, beat, falls, kv, n, rfl, rfl, hs, hsh, hn, hfa, hbe⟩ := hp
  show ExS K _ _ [.pu (svcD s), .pu (.int beat), .pu (.int falls), .ow (RDf K (tbD kv)), .non, .non, .non, .non, .non, .non, .non]
  fail "kb"
  let c : Nat → List Mr := fun i => match i with
    | 0 => []
    | 1 => (optM s kv beat (falls + 1)).toList
    | _ => candM s kv beat falls
  have hcl : ∀ i, (c i).length ≤ 2 := fun i => by
    have h1 : ∀ o : Option Mr, o.toList.length ≤ 1 := fun o => by cases o <;> simp
    match i with
    | 0 => exact Nat.zero_le _
    | 1 => exact Nat.le_trans (h1 _) (by decide)
    | i + 2 =>
      show (candM s kv beat falls).length ≤ 2
      unfold candM
      rw [List.length_append]
      have a1 := h1 (optM s kv beat (falls + 1))
      have a2 := h1 (optM s kv (beat + s.takes + s.stays) 1)
      omega
  refine xs_forT (ed_of ?_)
  fail "kb"
  refine ⟨fun i δ' => ∃ s6 s7 s8 s9 s10, δ' = [.pu (svcD s), .pu (.int beat), .pu (.int falls), .ow (RDf K (tbD kv)), .pu (.int (beat + s.takes + s.stays)), .ow (RL K ((((1, []) : Mr) :: c i).map mrD)), s6, s7, s8, s9, s10], ⟨_, _, _, _, _, rfl⟩, fun i y δ' hy => ?_, fun δ' => ?_⟩
  · rintro ⟨s6, s7, s8, s9, s10, rfl⟩
    have key : ∃ (w : Int) (m : Nat), y = .tuple [.int w, .int (m : Int)] ∧ 1 ≤ m ∧ m ≤ 10 ∧ c (i + 1) = c i ++ (optM s kv w m).toList := by
      match i, hy with
      | 0, hy => cases hy; exact ⟨beat, falls + 1, rfl, by omega, by omega, rfl⟩
      | 1, hy => cases hy; exact ⟨beat + s.takes + s.stays, 1, rfl, by omega, by omega, rfl⟩
      | i + 2, hy => cases hy
    obtain ⟨wh, m, rfl, hm1, hm2, hc⟩ := key
    refine turn1 (as := [(6, .int wh), (7, .int (m : Int))]) tg_tup2 (fun q hq => ?_) ?_
    · rcases List.mem_cons.mp hq with rfl | hq
      · exact Nat.le_of_ble_eq_true rfl
      · rw [List.mem_singleton.mp hq]; exact Nat.le_of_ble_eq_true rfl
    show ExS K (tSeq _ _) _ [.pu (svcD s), .pu (.int beat), .pu (.int falls), .ow (RDf K (tbD kv)), .pu (.int (beat + s.takes + s.stays)), .ow (RL K ((((1, []) : Mr) :: c i).map mrD)), .pu (.int wh), .pu (.int m), s8, s9, s10]
    refine xs_seq (xs_asg (ev_tupK ?_))
    fail "kb"
    refine ev_call ?_
    fail "kb"
    refine ⟨rfl, ⟨s, m, rfl, by omega, by have := hs.waits; omega, by have := hs.waits; omega⟩, fun r hr => ?_⟩
    cases hr s m rfl
    refine ⟨_, _, rfl, rfl, ?_⟩
    fail "kb"
    generalize hkey : [wh + waitF s.waits (m - 1), (m : Int)] = key
    have hL := look_tb kv key
    have fin : optM s kv wh m = none → ∃ s6 s7 s8 s9' s10', ([.pu (svcD s), .pu (.int beat), .pu (.int falls), .ow (RDf K (tbD kv)), .pu (.int (beat + s.takes + s.stays)), .ow (RL K ((((1, []) : Mr) :: c i).map mrD)), .pu (.int wh), .pu (.int m), .ow (RTup key), s9, s10] : List Dl.Slot) = [.pu (svcD s), .pu (.int beat), .pu (.int falls), .ow (RDf K (tbD kv)), .pu (.int (beat + s.takes + s.stays)), .ow (RL K ((((1, []) : Mr) :: c (i + 1)).map mrD)), s6, s7, s8, s9', s10'] := fun h => ⟨_, _, _, _, _, by rw [hc, h, Option.toList_none, List.append_nil]⟩
    refine ifB (fun h1 => ?_) (fun h1 => ?_)
    · have h1 := of_decide_eq_true h1
      fail "kb"
      refine ⟨_, _, _, rfl, dt_frz, rfl, ?_⟩
      fail "kb"
      cases hlk : lookM kv key with
      | none =>
        rw [hlk] at hL
        rw [hL]
        fail "kb"
        exact fin (by unfold optM; rw [if_pos h1, hkey, hlk]; rfl)
      | some e =>
        rw [hlk] at hL
        rw [hL]
        fail "kb"
        have hL2 : lookT (tbD kv) key = some (mrD e) := hL
        refine xs_unpack (ed_of (ev_tget ⟨_, _, rfl, dt_frz⟩ (ev_alK rfl ⟨_, _, _, _, rfl, dt_frz, rfl, hL2, _, frz_pu, [(9, .int e.1), (10, .tuple (e.2.map PyData.int))], tg_tup2, fun q hq => ?_, ?_⟩)))
        · rcases List.mem_cons.mp hq with rfl | hq
          · exact Nat.le_of_ble_eq_true rfl
          · rw [List.mem_singleton.mp hq]; exact Nat.le_of_ble_eq_true rfl
        have hel : e.2.length ≤ 10000 := by
          obtain ⟨x, hx, hxe, _⟩ := look_mem hlk
          have := hsh.2 x hx
          rw [hxe] at this
          omega
        show ExS K _ _ [.pu (svcD s), .pu (.int beat), .pu (.int falls), .ow (RDf K (tbD kv)), .pu (.int (beat + s.takes + s.stays)), .ow (RL K ((((1, []) : Mr) :: c i).map mrD)), .pu (.int wh), .pu (.int m), .ow (RTup key), .pu (.int e.1), .pu (.tuple (e.2.map PyData.int))]
        fail "kb"
        refine ⟨by rw [List.length_map]; show 1 + _ ≤ _; omega, ?_⟩
        fail "kb"
        have hci := hcl i
        refine ⟨by rw [List.length_map]; show _ + 1 < _; omega, .pu (.int wh), .pu (.int m), .ow (RTup key), .pu (.int e.1), .pu (.tuple (e.2.map PyData.int)), ?_⟩
        have ho : optM s kv wh m = some (1 + e.1, wh :: e.2) := by
          unfold optM
          rw [if_pos h1, hkey, hlk]
          rfl
        rw [hc, ho, Option.toList_some, ← List.cons_append, List.map_append]
        rfl
    · have h1 := of_decide_eq_false h1
      fail "kb"
      exact fin (by unfold optM; rw [if_neg h1])
  · rintro ⟨s6, s7, s8, s9, s10, rfl⟩
    fail "kb"
    have hd : (((1, []) : Mr) :: c 2).map mrD = mrD (1, []) :: (candM s kv beat falls).map mrD := rfl
    refine ⟨mrD (1, []), (candM s kv beat falls).map mrD, den_al rfl, ?_, ?_, _, rfl, fun s' b' f' kv' e1 e2 => ?_⟩
    · exact alike_mrs ((1, []) :: candM s kv beat falls)
    · exact depth_mrs ((1, []) :: candM s kv beat falls)
    · rw [maxD_mr]
      cases tbD_inj e2
      simp only [List.cons.injEq, PyData.int.injEq, and_true] at e1
      obtain ⟨e3, e4, e5⟩ := e1
      cases svcD_inj e3
      have e6 : beat = b' := by omega
      have e7 : falls = f' := by omega
      subst e6 e7
      rfl
def pMost (ds : List PyData) : Prop := ∃ (s : Svc) (beats : Nat), ds = [svcD s, .int (beats : Int)] ∧ SvOk s ∧ beats ≤ 300
def RMo (K : PySem.W.Frag) (e : Mr) (t l : Addr) : Res := RH K t [(t, .tup [.d (.int e.1), .r l]), (l, .lst ((e.2.map PyData.int).map .d))]
def tMost (K : PySem.W.Frag) (ds : List PyData) (z : Slot) : Prop := ∀ (s : Svc) (beats : Nat), ds = [svcD s, .int (beats : Int)] → ∃ t l, z = .ow (RMo K (mostF s beats) t l)
theorem ok_most_of (D : Df K mg "most_of" s_most_of ["service", "beats"]) (B : Bn mg) (c_best_from : Cal P w K mg base 2 "best_from" (spDc K 3 pBest tBest)) : Cal P w K mg base 3 "most_of" (spN K 2 pMost (tMost K)) := by
  have nd := sc_most_of.nd
  refine calN D sc_most_of rfl fun f cdv A outer st H E hr => ⟨_, (pss_cons (ps_set (i := 2) nd rfl (Or.inl rfl) pe_dnewT)
      (pss_cons (ps_for PassesOwn.never rfl (pi_range3 (by rfl) B.range (pa_cons (pv 1) (pa_cons pe_int (pa_cons (pe_un un_neg pe_int) pa_nil)))) (pg_name (i := 3) nd rfl (Or.inl rfl)) (pss_one (ps_for PassesOwn.never rfl (pi_range1 (by rfl) B.range (pa_cons (pe_ix (Kk.ix_tup (K := K)) (pv 0) pe_int (fun _ _ => rfl)) pa_nil)) (pg_name (i := 4) nd rfl (Or.inl rfl)) (pss_one (ps_dput (Kk.hu hr) (pv 2) (pe_tup (pa_cons (pv 3) (pa_cons (pv 4) pa_nil))) (Dl.pe_c c_best_from hr (pa_cons (pv 0) (pa_cons (pv 3) (pa_cons (pv 4) (pa_cons (pv 2) pa_nil))))) rfl)))))
      (pss_cons (ps_asg (pe_dget2 (Kk.hu hr) (pv 2) (pe_tup (pa_cons pe_int (pa_cons pe_int pa_nil))) (pe_tup (pa_cons pe_int (pa_cons (pe_tup pa_nil) pa_nil))) ⟨rfl, rfl, rfl, rfl⟩) (Kk.pg_tup (K := K) (n := 2) (by rfl) (pgs_cons (pg_name (i := 5) nd rfl (Or.inl rfl)) (pgs_cons (pg_name (i := 6) nd rfl (Or.inl rfl)) pgs_nil))))
      (pss_one (ps_ret (pe_tup (pa_cons (pv 5) (pa_cons (pe_callTy (Kk.call_list_of (K := K)) (by rfl) B.list (by decide +kernel) (pa_cons (pv 6) pa_nil)) pa_nil)))))))), fun ds hn hp => ?_⟩
  obtain ⟨s, beats, rfl, hs, hb⟩ := hp
  have ht9 : s.tries.toNat ≤ 9 := by have := hs.tries; omega
  show ExS K _ _ [.pu (svcD s), .pu (.int beats), .non, .non, .non, .non, .non]
  refine xs_seq (xs_asg (ev_dnewT ⟨Nat.le_of_ble_eq_true rfl, _, rfl, ?_⟩))
  show ExS K (tSeq _ _) _ [.pu (svcD s), .pu (.int beats), .ow (RDt K (tbD [])), .non, .non, .non, .non]
  refine xs_seq (xs_forDown ?_)
  fail "kb"
  refine ⟨by omega, Nat.le_of_ble_eq_true rfl, fun n δ' => ∃ s3 s4, δ' = [.pu (svcD s), .pu (.int beats), .ow (RDt K (tbD (tabM s beats n))), s3, s4, .non, .non], ⟨_, _, rfl⟩, fun n δ' hn => ?_, fun δ' => ?_⟩
  · rintro ⟨s3, s4, rfl⟩
    refine turn1_name (Nat.le_of_ble_eq_true rfl) ?_
    fail "kb"
    refine xs_forR1 ?_
    fail "kb"
    have hbt : ((beats : Int) - (n : Int)) = ((beats - n : Nat) : Int) := by omega
    refine ⟨by have := hs.tries; omega, by have := hs.tries; omega, fun m δ' => ∃ s4, δ' = [.pu (svcD s), .pu (.int beats), .ow (RDt K (tbD (rowM s (tabM s beats n) ((beats : Int) - (n : Int)) m))), .pu (.int ((beats : Int) - (n : Int))), s4, .non, .non], ⟨_, rfl⟩, fun m δ' hm => ?_, fun δ' => ?_⟩
    · rintro ⟨s4, rfl⟩
      have hsh := (ShortM.tab s beats ht9 n).row (s := s) (beat := (beats : Int) - (n : Int)) m
      refine turn1_name (Nat.le_of_ble_eq_true rfl) ?_
      show ExS K (sDPut _ _ _) _ [.pu (svcD s), .pu (.int beats), .ow (RDt K (tbD (rowM s (tabM s beats n) ((beats : Int) - (n : Int)) m))), .pu (.int ((beats : Int) - (n : Int))), .pu (.int (m : Int)), .non, .non]
      refine xs_tput (ed_of (ev_callDc ?_))
      fail "kb"
      refine ⟨⟨s, beats - n, m, _, 9 * n + m, by rw [hbt], rfl, hs, hsh, by omega, by omega, by omega⟩, fun z hz => ?_⟩
      cases hz s (beats - n) m _ (by rw [hbt]) rfl
      refine ⟨_, frz_pu, _, rfl, ev_tupK ?_⟩
      fail "kb"
      refine ⟨?_, ?_⟩
      · rw [tb_len]; have := hsh.1; omega
      · refine ⟨.pu (.int (m : Int)), ?_⟩
        rw [store_tb, ← hbt]
        rfl
    · rintro ⟨s4, rfl⟩
      fail "kb"
      exact ⟨_, _, rfl⟩
  · rintro ⟨s3, s4, rfl⟩
    have hrow := most_row s beats ht9
    refine xs_seq (xs_unpack (ed_of (ev_tget2 ⟨_, _, rfl, dt_own⟩ (ev_tupK ?_))))
    fail "kb"
    have hmo : (lookT (tbD (tabM s beats beats)) [1, 0]).getD (mrD (0, [])) = mrD (mostF s beats) := by
      rw [look_tb]
      unfold mostF
      cases lookM (tabM s beats beats) [1, 0] <;> rfl
    refine ⟨_, _, rfl, dt_own, mrD (mostF s beats), ?_, [(5, .int (mostF s beats).1), (6, .tuple ((mostF s beats).2.map PyData.int))], tg_tup2, fun q hq => ?_, ?_⟩
    · have : (lookT (tbD (tabM s beats beats)) [1, 0]).getD (.tuple [.int 0, .tuple []]) = mrD (mostF s beats) := hmo
      rw [this]
      exact frz_pu
    · rcases List.mem_cons.mp hq with rfl | hq
      · exact Nat.le_of_ble_eq_true rfl
      · rw [List.mem_singleton.mp hq]; exact Nat.le_of_ble_eq_true rfl
    show ExS K _ _ [.pu (svcD s), .pu (.int beats), .ow (RDt K (tbD (tabM s beats beats))), s3, s4, .pu (.int (mostF s beats).1), .pu (.tuple ((mostF s beats).2.map PyData.int))]
    refine xs_ret (ev_tupO ?_)
    fail "kb"
    refine fun t l => .inr (.inl ⟨_, rfl, fun s' b' e1 => ?_⟩)
    · skip
      simp only [List.cons.injEq, PyData.int.injEq, and_true] at e1
      obtain ⟨e3, e4⟩ := e1
      cases svcD_inj e3
      have e5 : beats = b' := by omega
      subst e5
      exact ⟨t, l, rfl⟩
end
end Kr

namespace Kr
open PySem Dl
/-! ### the table of most_of tells the most -/
theorem mr_lt {a b : Mr} (h : a.1 ≠ b.1) : PySem.W.dataLt (mrD a) (mrD b) = decide (a.1 < b.1) := by
  unfold mrD
  rw [PySem.W.dataLt_tuple]
  simp only [PySem.W.keyToksAll, PySem.W.keyToks]
  rw [PyProof.Rows.lex_self]
  show PyProof.Rows.lexLt PyProof.Rows.itemOrd (Sum.inl a.1 :: _) (Sum.inl b.1 :: _) = _
  rw [PyProof.Rows.lex_diff (O := PyProof.Rows.itemOrd) (fun e => h (Sum.inl.inj e))]
  rfl
theorem best_max (x : Mr) (xs : List Mr) : x.1 ≤ (bestM x xs).1 ∧ ∀ y ∈ xs, y.1 ≤ (bestM x xs).1 := by
  unfold bestM
  induction xs generalizing x with
  | nil => exact ⟨Int.le_refl _, fun _ h => nomatch h⟩
  | cons y r ih =>
    rw [List.foldl_cons]
    have step : x.1 ≤ (if PySem.W.dataLt (mrD x) (mrD y) then y else x).1 ∧ y.1 ≤ (if PySem.W.dataLt (mrD x) (mrD y) then y else x).1 := by
      by_cases e : x.1 = y.1
      · split
        · exact ⟨by omega, Int.le_refl _⟩
        · exact ⟨Int.le_refl _, by omega⟩
      · rw [mr_lt e]
        by_cases c : x.1 < y.1
        · rw [if_pos (decide_eq_true c)]
          exact ⟨by omega, Int.le_refl _⟩
        · rw [if_neg (by rw [decide_eq_false c]; exact Bool.false_ne_true)]
          exact ⟨Int.le_refl _, by omega⟩
    obtain ⟨i1, i2⟩ := ih (if PySem.W.dataLt (mrD x) (mrD y) then y else x)
    refine ⟨Int.le_trans step.1 i1, fun z hz => ?_⟩
    rcases List.mem_cons.mp hz with rfl | hz
    · exact Int.le_trans step.2 i1
    · exact i2 z hz
theorem wait_pos {w : Int} (h : 1 ≤ w) : ∀ n, 1 ≤ waitF w n
  | 0 => h
  | n + 1 => by
    have := wait_pos h n
    show 1 ≤ min 600 (2 * waitF w n)
    omega
/-- behind later beats alone -/
def Agree (kv kv' : Mt) (b : Int) : Prop := ∀ (c : Int) (g : Int), b < c → lookM kv [c, g] = lookM kv' [c, g]
theorem opt_agree {s : Svc} {kv kv' : Mt} {b w : Int} {m : Nat} (h : Agree kv kv' b) (hw : b ≤ w) (h1 : 1 ≤ s.waits) : optM s kv w m = optM s kv' w m := by
  unfold optM
  have := wait_pos h1 (m - 1)
  rw [h _ _ (by omega)]
theorem bestF_agree {s : Svc} {kv kv' : Mt} {b : Int} {m : Nat} (h : Agree kv kv' b) (h1 : 1 ≤ s.waits) (h2 : 0 ≤ s.takes) (h3 : 0 ≤ s.stays) : bestF s kv b m = bestF s kv' b m := by
  unfold bestF candM
  rw [opt_agree h (Int.le_refl _) h1, opt_agree h (by omega) h1]
theorem row_look {s : Svc} {kv : Mt} {b : Int} : ∀ (m : Nat) (c g : Int), (c ≠ b ∨ g < 0 ∨ (m : Int) ≤ g) → lookM (rowM s kv b m) [c, g] = lookM kv [c, g]
  | 0, _, _, _ => rfl
  | m + 1, c, g, h => by
    show lookM (storeM (rowM s kv b m) [b, (m : Int)] _) [c, g] = _
    rw [look_store, if_neg (fun e => by
      simp only [List.cons.injEq, and_true] at e
      omega)]
    exact row_look m c g (by omega)
theorem row_at {s : Svc} {kv : Mt} {b : Int} : ∀ (m : Nat) (f : Nat), f < m → lookM (rowM s kv b m) [b, (f : Int)] = some (bestF s (rowM s kv b f) b f)
  | m + 1, f, h => by
    show lookM (storeM (rowM s kv b m) [b, (m : Int)] _) [b, (f : Int)] = _
    rw [look_store]
    by_cases e : f = m
    · subst e
      rw [if_pos rfl]
    · rw [if_neg (fun z => e (by
        simp only [List.cons.injEq, and_true, true_and] at z
        omega))]
      exact row_at m f (by omega)
theorem row_agree {s : Svc} {kv : Mt} {b : Int} {m : Nat} : Agree (rowM s kv b m) kv b := fun c g h => row_look m c g (.inl (by omega))
/-- the table behind n beats -/
theorem tab_look {s : Svc} {B : Nat} : ∀ (n : Nat), n ≤ B → ∀ (c g : Int), (c ≤ (B : Int) - (n : Int) ∨ (B : Int) < c ∨ g < 0 ∨ s.tries ≤ g) → lookM (tabM s B n) [c, g] = none
  | 0, _, _, _, _ => rfl
  | n + 1, hn, c, g, h => by
    show lookM (rowM s (tabM s B n) ((B : Int) - (n : Int)) s.tries.toNat) [c, g] = _
    rw [row_look _ _ _ (by omega)]
    exact tab_look n (by omega) c g (by omega)
theorem tab_agree {s : Svc} {B : Nat} : ∀ (n m : Nat), n ≤ m → Agree (tabM s B m) (tabM s B n) ((B : Int) - (n : Int))
  | n, m, h => by
    induction m with
    | zero =>
      have : n = 0 := by omega
      subst this
      exact fun _ _ _ => rfl
    | succ m ih =>
      by_cases e : n = m + 1
      · subst e; exact fun _ _ _ => rfl
      · intro c g hc
        show lookM (rowM s (tabM s B m) ((B : Int) - (m : Int)) s.tries.toNat) [c, g] = _
        rw [row_look _ _ _ (by omega)]
        exact ih (by omega) c g hc
/-- the whole table solves the law of the best -/
theorem tab_fix {s : Svc} {B : Nat} (h1 : 1 ≤ s.waits) (h2 : 0 ≤ s.takes) (h3 : 0 ≤ s.stays) {b f : Nat} (hb1 : 1 ≤ b) (hb : b ≤ B) (hf : (f : Int) < s.tries) : lookM (tabM s B B) [(b : Int), (f : Int)] = some (bestF s (tabM s B B) b f) := by
  obtain ⟨n, rfl⟩ : ∃ n, B = n + b := ⟨B - b, by omega⟩
  have e1 : ((n + b : Nat) : Int) - (n : Int) = (b : Int) := by omega
  have a1 := tab_agree (s := s) (B := n + b) (n + 1) (n + b) (by omega) (b : Int) (f : Int) (by omega)
  rw [a1]
  show lookM (rowM s (tabM s (n + b) n) (((n + b : Nat) : Int) - (n : Int)) s.tries.toNat) [(b : Int), (f : Int)] = _
  rw [e1, row_at _ _ (by omega)]
  congr 1
  refine bestF_agree (fun c g hc => ?_) h1 h2 h3
  rw [row_look _ _ _ (.inl (by omega)), tab_agree (s := s) (B := n + b) n (n + b) (by omega) c g (by omega)]
/-- how many begins from a begin on; none behind the last beat -/
def numM (s : Svc) (B : Nat) (b : Int) (f : Nat) : Int := match lookM (tabM s B B) [b, (f : Int)] with
  | some e => e.1
  | none => 0
/-- what numbers a table of bests has -/
structure Num (s : Svc) (B : Nat) (N : Int → Nat → Int) : Prop where
  out : ∀ (b : Int) (f : Nat), (B : Int) < b → N b f = 0
  one : ∀ (b : Int) (f : Nat), 1 ≤ b → b ≤ (B : Int) → (f : Int) < s.tries → 1 ≤ N b f
  now : ∀ (b : Int) (f : Nat), 1 ≤ b → b ≤ (B : Int) → ((f + 1 : Nat) : Int) < s.tries → 1 + N (b + waitF s.waits f) (f + 1) ≤ N b f
  rest : ∀ (b : Int) (f : Nat), 1 ≤ b → b ≤ (B : Int) → (f : Int) < s.tries → 1 < s.tries → 1 + N (b + s.takes + s.stays + s.waits) 1 ≤ N b f
  some : ∀ (b : Int) (f : Nat), 1 ≤ b → b ≤ (B : Int) → (f : Int) < s.tries → N b f = 1 ∨ (((f + 1 : Nat) : Int) < s.tries ∧ N b f = 1 + N (b + waitF s.waits f) (f + 1)) ∨ (1 < s.tries ∧ N b f = 1 + N (b + s.takes + s.stays + s.waits) 1)
theorem numM_num {s : Svc} {B : Nat} (h1 : 1 ≤ s.waits) (h2 : 0 ≤ s.takes) (h3 : 0 ≤ s.stays) : Num s B (numM s B) := by
  have at_ : ∀ (b : Int) (f : Nat), 1 ≤ b → b ≤ (B : Int) → (f : Int) < s.tries → numM s B b f = (bestF s (tabM s B B) b f).1 := fun b f hb1 hb hf => by
    obtain ⟨k, rfl⟩ : ∃ k : Nat, b = (k : Int) := ⟨b.toNat, by omega⟩
    unfold numM
    rw [tab_fix h1 h2 h3 (by omega) (by omega) hf]
  have opt : ∀ (w : Int) (m : Nat) (e : Mr), optM s (tabM s B B) w m = some e → (m : Int) < s.tries ∧ e.1 = 1 + numM s B (w + waitF s.waits (m - 1)) m := fun w m e he => by
    unfold optM at he
    split at he
    · next c =>
      refine ⟨c, ?_⟩
      unfold numM
      cases q : lookM (tabM s B B) [w + waitF s.waits (m - 1), (m : Int)] with
      | none => rw [q] at he; cases he
      | some e0 => rw [q] at he; cases he; rfl
    · cases he
  have opt2 : ∀ (w : Int) (m : Nat), (m : Int) < s.tries → numM s B (w + waitF s.waits (m - 1)) m = 0 ∨ ∃ e, optM s (tabM s B B) w m = some e ∧ e.1 = 1 + numM s B (w + waitF s.waits (m - 1)) m := fun w m hm => by
    cases q : lookM (tabM s B B) [w + waitF s.waits (m - 1), (m : Int)] with
    | none => left; unfold numM; rw [q]
    | some e0 =>
      right
      refine ⟨(1 + e0.1, w :: e0.2), ?_, ?_⟩
      · unfold optM; rw [if_pos hm, q]; rfl
      · unfold numM; rw [q]
  have mx := fun (b : Int) (f : Nat) => best_max (1, []) (candM s (tabM s B B) b f)
  refine ⟨fun b f hb => ?_, fun b f hb1 hb hf => ?_, fun b f hb1 hb hf => ?_, fun b f hb1 hb hf ht => ?_, fun b f hb1 hb hf => ?_⟩
  · unfold numM
    rw [tab_look B (Nat.le_refl _) _ _ (.inr (.inl hb))]
  · rw [at_ b f hb1 hb hf]
    exact (mx b f).1
  · rw [at_ b f hb1 hb (by omega)]
    rcases opt2 b (f + 1) hf with z | ⟨e, he, ee⟩
    · rw [Nat.add_sub_cancel] at z
      rw [z]
      exact (mx b f).1
    · rw [Nat.add_sub_cancel] at ee
      rw [← ee]
      exact (mx b f).2 e (List.mem_append_left _ (by rw [he]; exact List.mem_singleton.mpr rfl))
  · rw [at_ b f hb1 hb hf]
    rcases opt2 (b + s.takes + s.stays) 1 ht with z | ⟨e, he, ee⟩
    · have z : numM s B (b + s.takes + s.stays + s.waits) 1 = 0 := z
      rw [z]
      exact (mx b f).1
    · have ee : e.1 = 1 + numM s B (b + s.takes + s.stays + s.waits) 1 := ee
      rw [← ee]
      exact (mx b f).2 e (List.mem_append_right _ (by rw [he]; exact List.mem_singleton.mpr rfl))
  · rw [at_ b f hb1 hb hf]
    have hm := bestM_mem (1, []) (candM s (tabM s B B) b f)
    rcases List.mem_cons.mp hm with e | hm
    · left
      show (bestM _ _).1 = 1
      rw [e]
    · right
      rcases List.mem_append.mp hm with hm | hm
      · obtain ⟨c, ee⟩ := opt _ _ _ (Option.mem_toList.mp hm)
        rw [Nat.add_sub_cancel] at ee
        exact .inl ⟨c, ee⟩
      · obtain ⟨c, ee⟩ := opt _ _ _ (Option.mem_toList.mp hm)
        exact .inr ⟨c, ee⟩
/-- later begins tell no more -/
theorem Num.mono {s : Svc} {B : Nat} {N : Int → Nat → Int} (h : Num s B N) (h1 : 1 ≤ s.waits) (h2 : 0 ≤ s.takes) (h3 : 0 ≤ s.stays) : ∀ (k : Nat) (b : Int) (f : Nat), (B : Int) - b ≤ (k : Int) → 1 ≤ b → (f : Int) < s.tries → N (b + 1) f ≤ N b f := by
  intro k
  induction k with
  | zero =>
    intro b f hk hb hf
    rw [h.out (b + 1) f (by omega)]
    by_cases c : b ≤ (B : Int)
    · have := h.one b f hb c hf; omega
    · rw [h.out b f (by omega)]; exact Int.le_refl _
  | succ k ih =>
    intro b f hk hb hf
    by_cases c : b + 1 ≤ (B : Int)
    · have hb0 : b ≤ (B : Int) := by omega
      have hone := h.one b f hb hb0 hf
      rcases h.some (b + 1) f (by omega) c hf with e | ⟨t, e⟩ | ⟨t, e⟩
      · omega
      · have w := wait_pos h1 f
        have := ih (b + waitF s.waits f) (f + 1) (by omega) (by omega) t
        have := h.now b f hb hb0 t
        rw [show b + waitF s.waits f + 1 = b + 1 + waitF s.waits f by omega] at *
        omega
      · have := ih (b + s.takes + s.stays + s.waits) 1 (by omega) (by omega) (by omega)
        have := h.rest b f hb hb0 hf t
        rw [show b + s.takes + s.stays + s.waits + 1 = b + 1 + s.takes + s.stays + s.waits by omega] at *
        omega
    · rw [h.out (b + 1) f (by omega)]
      by_cases c : b ≤ (B : Int)
      · have := h.one b f hb c hf; omega
      · rw [h.out b f (by omega)]; exact Int.le_refl _
theorem Num.mono2 {s : Svc} {B : Nat} {N : Int → Nat → Int} (h : Num s B N) (h1 : 1 ≤ s.waits) (h2 : 0 ≤ s.takes) (h3 : 0 ≤ s.stays) {b : Int} {f : Nat} (hb : 1 ≤ b) (hf : (f : Int) < s.tries) : ∀ d : Nat, N (b + (d : Int)) f ≤ N b f
  | 0 => by rw [show b + ((0 : Nat) : Int) = b by omega]; exact Int.le_refl _
  | d + 1 => by
    have := Num.mono2 h h1 h2 h3 hb hf d
    have := h.mono h1 h2 h3 ((B : Int) - (b + d)).toNat (b + d) f (by omega) (by omega) hf
    rw [show b + ((d + 1 : Nat) : Int) = b + (d : Int) + 1 by omega]
    omega
/-- there is one such table -/
theorem Num.le {s : Svc} {B : Nat} {N N' : Int → Nat → Int} (h : Num s B N) (h' : Num s B N') (h1 : 1 ≤ s.waits) (h2 : 0 ≤ s.takes) (h3 : 0 ≤ s.stays) : ∀ (k : Nat) (b : Int) (f : Nat), (B : Int) - b ≤ (k : Int) → 1 ≤ b → (f : Int) < s.tries → N b f ≤ N' b f := by
  intro k
  induction k with
  | zero =>
    intro b f hk hb hf
    by_cases c : b ≤ (B : Int)
    · have hone := h'.one b f hb c hf
      rcases h.some b f hb c hf with e | ⟨t, e⟩ | ⟨t, e⟩
      · omega
      · have w := wait_pos h1 f
        rw [h.out (b + waitF s.waits f) (f + 1) (by omega)] at e
        omega
      · rw [h.out (b + s.takes + s.stays + s.waits) 1 (by omega)] at e
        omega
    · rw [h.out b f (by omega), h'.out b f (by omega)]; exact Int.le_refl _
  | succ k ih =>
    intro b f hk hb hf
    by_cases c : b ≤ (B : Int)
    · have hone := h'.one b f hb c hf
      rcases h.some b f hb c hf with e | ⟨t, e⟩ | ⟨t, e⟩
      · omega
      · have w := wait_pos h1 f
        have := ih (b + waitF s.waits f) (f + 1) (by omega) (by omega) t
        have := h'.now b f hb c t
        omega
      · have := ih (b + s.takes + s.stays + s.waits) 1 (by omega) (by omega) (by omega)
        have := h'.rest b f hb c hf t
        omega
    · rw [h.out b f (by omega), h'.out b f (by omega)]; exact Int.le_refl _
end Kr

namespace Kr
open PySem Dl
/-! ### a service alone -/
/-- it begins in the beat b, behind f falls in a row; now n beats are over -/
inductive Ph (n b : Int) (f : Nat) : Srv → Prop
  | off {l : Int} : b = n + 1 → Ph n b f ⟨.off, l, (f : Int)⟩
  | again : n + 1 ≤ b → Ph n b f ⟨.again, b - n, (f : Int)⟩
/-- it began in the beat b -/
inductive Rn (s : Svc) (n b : Int) (f : Nat) : Srv → Prop
  | beg : b ≤ n → n - b < s.takes → Rn s n b f ⟨.begins, s.takes - (n - b), (f : Int)⟩
  | up : 0 ≤ n - b - s.takes → n - b - s.takes < s.stays → Rn s n b f ⟨.up, n - b - s.takes, (f : Int)⟩
  | rested : s.stays ≤ n - b - s.takes → Rn s n b f ⟨.up, n - b - s.takes, 0⟩
def begs (s : Svc) (r : Srv) : Nat := if (countS s r).1.word = .off then 1 else 0
section
variable {s : Svc} {n b : Int} {f : Nat} {r : Srv}
theorem Ph.wait (h : Ph n b f r) (hb : n + 1 < b) : Ph (n + 1) b f (step0 s r) ∧ begs s r = 0 := by
  cases h with
  | off e => omega
  | again e =>
    have e1 : countS s ⟨.again, b - n, (f : Int)⟩ = (⟨.again, b - n - 1, (f : Int)⟩, none) := by
      unfold countS
      exact if_pos (by show 0 < b - n - 1; omega)
    refine ⟨?_, ?_⟩
    · unfold step0
      rw [e1, if_neg (fun z => nomatch z), show b - n - 1 = b - (n + 1) by omega]
      exact .again (by omega)
    · unfold begs
      rw [e1, if_neg (fun z => nomatch z)]
theorem Ph.go (h : Ph n b f r) (hb : n + 1 = b) (ht : 1 ≤ s.takes) : Rn s b b f (step0 s r) ∧ begs s r = 1 := by
  have e1 : ∃ l, (countS s r).1 = ⟨.off, l, (f : Int)⟩ := by
    cases h with
    | @off l e => exact ⟨l, rfl⟩
    | again e =>
      refine ⟨0, ?_⟩
      show (countS s ⟨.again, b - n, (f : Int)⟩).1 = _
      unfold countS
      show (if 0 < b - n - 1 then _ else _ : Srv × Option Lw).1 = _
      rw [if_neg (by omega)]
  obtain ⟨l, e1⟩ := e1
  refine ⟨?_, ?_⟩
  · unfold step0
    rw [e1, if_pos rfl]
    show Rn s b b f ⟨.begins, s.takes, (f : Int)⟩
    have : Rn s b b f ⟨.begins, s.takes - (b - b), (f : Int)⟩ := .beg (Int.le_refl _) (by omega)
    rwa [show s.takes - (b - b) = s.takes by omega] at this
  · unfold begs
    rw [e1, if_pos rfl]
theorem Rn.next (h : Rn s n b f r) (ht : 1 ≤ s.takes) (hs : 1 ≤ s.stays) : Rn s (n + 1) b f (step0 s r) ∧ begs s r = 0 := by
  have fin : ∀ r' : Srv, (countS s r).1 = r' → r'.word ≠ .off → Rn s (n + 1) b f r' → Rn s (n + 1) b f (step0 s r) ∧ begs s r = 0 := fun r' e w q => by
    unfold step0 begs
    rw [e, if_neg w, if_neg w]
    exact ⟨q, rfl⟩
  cases h with
  | beg h1 h2 =>
    by_cases c : n + 1 - b < s.takes
    · refine fin ⟨.begins, s.takes - (n + 1 - b), (f : Int)⟩ ?_ (fun z => nomatch z) (.beg (by omega) c)
      unfold countS
      show (if 0 < s.takes - (n - b) - 1 then _ else _ : Srv × Option Lw).1 = _
      rw [if_pos (by omega), show s.takes - (n - b) - 1 = s.takes - (n + 1 - b) by omega]
    · refine fin ⟨.up, 0, (f : Int)⟩ ?_ (fun z => nomatch z) ?_
      · unfold countS
        show (if 0 < s.takes - (n - b) - 1 then _ else _ : Srv × Option Lw).1 = _
        rw [if_neg (by omega)]
      · have : Rn s (n + 1) b f ⟨.up, n + 1 - b - s.takes, (f : Int)⟩ := .up (by omega) (by omega)
        rwa [show n + 1 - b - s.takes = 0 by omega] at this
  | up h1 h2 =>
    by_cases c : n - b - s.takes + 1 = s.stays
    · refine fin ⟨.up, n + 1 - b - s.takes, 0⟩ ?_ (fun z => nomatch z) (.rested (by omega))
      unfold countS
      show (⟨.up, n - b - s.takes + 1, if n - b - s.takes + 1 = s.stays then 0 else (f : Int)⟩ : Srv) = _
      rw [if_pos c, show n - b - s.takes + 1 = n + 1 - b - s.takes by omega]
    · refine fin ⟨.up, n + 1 - b - s.takes, (f : Int)⟩ ?_ (fun z => nomatch z) (.up (by omega) (by omega))
      unfold countS
      show (⟨.up, n - b - s.takes + 1, if n - b - s.takes + 1 = s.stays then 0 else (f : Int)⟩ : Srv) = _
      rw [if_neg c, show n - b - s.takes + 1 = n + 1 - b - s.takes by omega]
  | rested h1 =>
    refine fin ⟨.up, n + 1 - b - s.takes, 0⟩ ?_ (fun z => nomatch z) (.rested (by omega))
    unfold countS
    show (⟨.up, n - b - s.takes + 1, if n - b - s.takes + 1 = s.stays then 0 else 0⟩ : Srv) = _
    rw [ite_self, show n - b - s.takes + 1 = n + 1 - b - s.takes by omega]
theorem Rn.runs (h : Rn s n b f r) : r.word.runs = true := by cases h <;> rfl
theorem Ph.idle (h : Ph n b f r) : r.word.runs = false := by cases h <;> rfl
/-- a fall, ahead of the rest or behind it -/
theorem Rn.fall (h : Rn s n b f r) (hw : 1 ≤ s.waits) :
    (n < b + s.takes + s.stays → (s.tries ≤ ((f + 1 : Nat) : Int) → (fallS s r).word = .given) ∧ (((f + 1 : Nat) : Int) < s.tries → Ph n (n + waitF s.waits f) (f + 1) (fallS s r))) ∧
    (b + s.takes + s.stays ≤ n → (s.takes + s.stays) + b ≤ n → 0 ≤ s.takes → 1 ≤ s.stays → (s.tries ≤ 1 → (fallS s r).word = .given) ∧ (1 < s.tries → Ph n (n + s.waits) 1 (fallS s r))) := by
  have key : ∀ (w : Wd) (l : Int) (g : Nat), w ≠ .ends → (s.tries ≤ ((g + 1 : Nat) : Int) → (fallS s ⟨w, l, (g : Int)⟩).word = .given) ∧ (((g + 1 : Nat) : Int) < s.tries → Ph n (n + waitF s.waits g) (g + 1) (fallS s ⟨w, l, (g : Int)⟩)) := fun w l g hne => by
    have e : fallS s ⟨w, l, (g : Int)⟩ = if s.tries ≤ (g : Int) + 1 then ⟨.given, 0, (g : Int) + 1⟩ else ⟨.again, waitF s.waits g, (g : Int) + 1⟩ := by
      unfold fallS
      exact if_neg hne
    rw [e]
    refine ⟨fun c => ?_, fun c => ?_⟩
    · rw [if_pos (by omega)]
    · rw [if_neg (by omega)]
      have w1 := wait_pos hw g
      have := Ph.again (n := n) (b := n + waitF s.waits g) (f := g + 1) (by omega)
      rwa [show n + waitF s.waits g - n = waitF s.waits g by omega, show ((g + 1 : Nat) : Int) = (g : Int) + 1 by omega] at this
  cases h with
  | beg h1 h2 => exact ⟨fun _ => key .begins _ f (fun z => nomatch z), fun z _ _ _ => by omega⟩
  | up h1 h2 => exact ⟨fun _ => key .up _ f (fun z => nomatch z), fun z _ _ _ => by omega⟩
  | rested h1 => exact ⟨fun z => by omega, fun _ _ _ _ => key .up _ 0 (fun z => nomatch z)⟩
end
/-! ### at the most -/
structure SvOk' (s : Svc) : Prop where
  takes : 1 ≤ s.takes
  waits : 1 ≤ s.waits
  stays : 1 ≤ s.stays
  tries : 1 ≤ s.tries
/-- what may still come -/
inductive Pot (s : Svc) (N : Int → Nat → Int) (n : Int) (r : Srv) (c M : Int) : Prop
  | wait (b : Int) (f : Nat) : Ph n b f r → 1 ≤ b → (f : Int) < s.tries → c + N b f ≤ M → Pot s N n r c M
  | run (b : Int) (f : Nat) : Rn s n b f r → 1 ≤ b → b ≤ n → (f : Int) < s.tries → c + N b f ≤ M + 1 → Pot s N n r c M
  | given : r.word = .given → c ≤ M → Pot s N n r c M
section
variable {s : Svc} {B : Nat} {N : Int → Nat → Int} {r : Srv} {c M : Int}
theorem Pot.beat (hs : SvOk' s) {n : Int} (h : Pot s N n r c M) : Pot s N (n + 1) (step0 s r) (c + (begs s r : Int)) M := by
  cases h with
  | wait b f hp h1 hf hc =>
    have hle : n + 1 ≤ b := by cases hp <;> omega
    by_cases e : n + 1 = b
    · obtain ⟨q, e2⟩ := hp.go e hs.takes
      rw [e2, e]
      exact .run b f q h1 (Int.le_refl _) hf (by omega)
    · obtain ⟨q, e2⟩ := hp.wait (s := s) (by omega)
      rw [e2]
      exact .wait b f q h1 hf (by omega)
  | run b f hr h1 hb hf hc =>
    obtain ⟨q, e2⟩ := hr.next hs.takes hs.stays
    rw [e2]
    exact .run b f q h1 (by omega) hf (by omega)
  | given hw hc =>
    obtain ⟨w, l, g⟩ := r
    cases (show w = .given from hw)
    refine .given rfl ?_
    show c + ((begs s ⟨.given, l, g⟩ : Nat) : Int) ≤ M
    rw [show begs s ⟨.given, l, g⟩ = 0 from rfl]
    omega
theorem Pot.fall (hs : SvOk' s) (hN : Num s B N) {n : Int} (hn : n ≤ (B : Int)) (h : Pot s N n r c M) (hrun : r.word.runs = true) : Pot s N n (fallS s r) c M := by
  cases h with
  | wait b f hp h1 hf hc => rw [hp.idle] at hrun; cases hrun
  | given hw hc => rw [hw] at hrun; cases hrun
  | run b f hr h1 hb hf hc =>
    have hone := hN.one b f h1 (by omega) hf
    obtain ⟨f1, f2⟩ := hr.fall hs.waits
    have h2 := hs.takes
    have h3 := hs.stays
    by_cases e : n < b + s.takes + s.stays
    · obtain ⟨g1, g2⟩ := f1 e
      by_cases t : ((f + 1 : Nat) : Int) < s.tries
      · have w := wait_pos hs.waits f
        refine .wait _ _ (g2 t) (by omega) t ?_
        have a1 := hN.now b f h1 (by omega) t
        have a2 := hN.mono2 hs.waits (by omega) (by omega) (b := b + waitF s.waits f) (f := f + 1) (by omega) t (n - b).toNat
        rw [show b + waitF s.waits f + (((n - b).toNat : Nat) : Int) = n + waitF s.waits f by omega] at a2
        omega
      · exact .given (g1 (by omega)) (by omega)
    · obtain ⟨g1, g2⟩ := f2 (by omega) (by omega) (by omega) hs.stays
      by_cases t : 1 < s.tries
      · refine .wait _ _ (g2 t) (by have := hs.waits; omega) (by omega) ?_
        have a1 := hN.rest b f h1 (by omega) hf t
        have a2 := hN.mono2 hs.waits (by omega) (by omega) (b := b + s.takes + s.stays + s.waits) (f := 1) (by have := hs.waits; omega) (by omega) (n - (b + s.takes + s.stays)).toNat
        rw [show b + s.takes + s.stays + s.waits + (((n - (b + s.takes + s.stays)).toNat : Nat) : Int) = n + s.waits by omega] at a2
        omega
      · exact .given (g1 (by omega)) (by omega)
theorem Num.nn (hN : Num s B N) {b : Int} {f : Nat} (h1 : 1 ≤ b) (hf : (f : Int) < s.tries) : 0 ≤ N b f := by
  by_cases c : b ≤ (B : Int)
  · have := hN.one b f h1 c hf; omega
  · rw [hN.out b f (by omega)]; exact Int.le_refl _
theorem Pot.last (hN : Num s B N) {n : Int} (hn : n ≤ (B : Int)) (h : Pot s N n r c M) : c ≤ M := by
  cases h with
  | wait b f hp h1 hf hc => have := hN.nn h1 hf; omega
  | given hw hc => exact hc
  | run b f hr h1 hb hf hc => have := hN.one b f h1 (by omega) hf; omega
end
end Kr

namespace Kr
open PySem Dl
/-! ### the falls that are told are such -/
inductive Ent (s : Svc) (B : Nat) : Int → Nat → Mr → Prop
  | one {b : Int} {f : Nat} : b ≤ (B : Int) → Ent s B b f (1, [])
  | now {b : Int} {f : Nat} {e : Mr} : b ≤ (B : Int) → ((f + 1 : Nat) : Int) < s.tries → Ent s B (b + waitF s.waits f) (f + 1) e → Ent s B b f (1 + e.1, b :: e.2)
  | rest {b : Int} {f : Nat} {e : Mr} : b ≤ (B : Int) → 1 < s.tries → Ent s B (b + s.takes + s.stays + s.waits) 1 e → Ent s B b f (1 + e.1, (b + s.takes + s.stays) :: e.2)
section
variable {s : Svc} {B : Nat}
theorem Ent.le {b : Int} {f : Nat} {e : Mr} (h : Ent s B b f e) : b ≤ (B : Int) := by
  cases h <;> assumption
theorem Ent.ge (hs : SvOk' s) {b : Int} {f : Nat} {e : Mr} (h : Ent s B b f e) : (∀ x ∈ e.2, b ≤ x) ∧ e.2.Pairwise (· < ·) := by
  induction h with
  | one _ => exact ⟨(fun _ h => nomatch h), List.Pairwise.nil⟩
  | @now b f e _ _ h ih =>
    have w := wait_pos hs.waits f
    refine ⟨fun x hx => ?_, List.pairwise_cons.mpr ⟨fun x hx => ?_, ih.2⟩⟩
    · rcases List.mem_cons.mp hx with rfl | hx
      · exact Int.le_refl _
      · have := ih.1 x hx; omega
    · have := ih.1 x hx; omega
  | @rest b f e _ _ h ih =>
    have h1 := hs.takes
    have h2 := hs.stays
    have h3 := hs.waits
    refine ⟨fun x hx => ?_, List.pairwise_cons.mpr ⟨fun x hx => ?_, ih.2⟩⟩
    · rcases List.mem_cons.mp hx with rfl | hx
      · omega
      · have := ih.1 x hx; omega
    · have := ih.1 x hx; omega
theorem ent_of (hs : SvOk' s) : ∀ (k : Nat) (b : Int) (f : Nat) (e : Mr), (B : Int) - b ≤ (k : Int) → 1 ≤ b → lookM (tabM s B B) [b, (f : Int)] = some e → Ent s B b f e := by
  have hw := hs.waits
  have ht := hs.takes
  have hst := hs.stays
  intro k
  induction k using Nat.strongRecOn with
  | ind k ih =>
    intro b f e hk hb he
    have hbB : b ≤ (B : Int) := Classical.byContradiction fun c => by rw [tab_look B (Nat.le_refl _) _ _ (.inr (.inl (by omega)))] at he; cases he
    have hf : (f : Int) < s.tries := Classical.byContradiction fun c => by rw [tab_look B (Nat.le_refl _) _ _ (.inr (.inr (.inr (by omega))))] at he; cases he
    obtain ⟨j, rfl⟩ : ∃ j : Nat, b = (j : Int) := ⟨b.toNat, by omega⟩
    rw [tab_fix hw (by omega) (by omega) (by omega) (by omega) hf] at he
    cases he
    have opt : ∀ (w : Int) (m : Nat) (e : Mr), optM s (tabM s B B) w m = some e → (m : Int) < s.tries ∧ ∃ e0, lookM (tabM s B B) [w + waitF s.waits (m - 1), (m : Int)] = some e0 ∧ e = (1 + e0.1, w :: e0.2) := fun w m e he => by
      unfold optM at he
      split at he
      · next c =>
        cases q : lookM (tabM s B B) [w + waitF s.waits (m - 1), (m : Int)] with
        | none => rw [q] at he; cases he
        | some e0 => rw [q] at he; cases he; exact ⟨c, e0, rfl, rfl⟩
      · cases he
    have later : ∀ (c : Int) (g : Nat) (e0 : Mr), (j : Int) < c → lookM (tabM s B B) [c, (g : Int)] = some e0 → Ent s B c g e0 := fun c g e0 hc h0 => by
      have hcB : c ≤ (B : Int) := Classical.byContradiction fun z => by rw [tab_look B (Nat.le_refl _) _ _ (.inr (.inl (by omega)))] at h0; cases h0
      exact ih ((B : Int) - c).toNat (by omega) c g e0 (by omega) (by omega) h0
    have hm := bestM_mem (1, []) (candM s (tabM s B B) j f)
    show Ent s B j f (bestM _ _)
    rcases List.mem_cons.mp hm with e | hm
    · rw [e]; exact .one hbB
    · rcases List.mem_append.mp hm with hm | hm
      · obtain ⟨c, e0, h0, ee⟩ := opt _ _ _ (Option.mem_toList.mp hm)
        rw [ee]
        have w := wait_pos hw f
        exact .now hbB c (later _ _ _ (by omega) h0)
      · obtain ⟨c, e0, h0, ee⟩ := opt _ _ _ (Option.mem_toList.mp hm)
        rw [ee]
        exact .rest hbB c (later (j + s.takes + s.stays + s.waits) 1 e0 (by omega) h0)
/-- by such falls so many begins come -/
inductive Now (s : Svc) (B : Nat) (S : Int → Prop) (n : Int) (r : Srv) (c M : Int) : Prop
  | wait (b : Int) (f : Nat) (e : Mr) : Ph n b f r → 1 ≤ b → Ent s B b f e → c + e.1 = M → (∀ m, n < m → (S m ↔ m ∈ e.2)) → Now s B S n r c M
  | run (b : Int) (f : Nat) : Rn s n b f r → c = M → (∀ m, n < m → ¬ S m) → Now s B S n r c M
  | rest (b : Int) (f : Nat) (e : Mr) : Rn s n b f r → 1 ≤ b → b ≤ n → n < b + s.takes + s.stays → 1 < s.tries → Ent s B (b + s.takes + s.stays + s.waits) 1 e → c + e.1 = M → (∀ m, n < m → (S m ↔ m = b + s.takes + s.stays ∨ m ∈ e.2)) → Now s B S n r c M
open Classical in
noncomputable def turnS (s : Svc) (S : Int → Prop) (n : Int) (r : Srv) : Srv := if S (n + 1) ∧ (step0 s r).word.runs = true then fallS s (step0 s r) else step0 s r
open Classical in
theorem Now.turn (hs : SvOk' s) {S : Int → Prop} {n : Int} {r : Srv} {c M : Int} (h : Now s B S n r c M) : Now s B S (n + 1) (turnS s S n r) (c + (begs s r : Int)) M := by
  have hw := hs.waits
  have ht := hs.takes
  have hst := hs.stays
  have no : ¬ S (n + 1) → turnS s S n r = step0 s r := fun h => by unfold turnS; rw [if_neg fun z => h z.1]
  have yes : S (n + 1) → (step0 s r).word.runs = true → turnS s S n r = fallS s (step0 s r) := fun h h2 => by unfold turnS; rw [if_pos ⟨h, h2⟩]
  cases h with
  | wait b f e hp h1 he hc hS =>
    have hle : n + 1 ≤ b := by cases hp <;> omega
    obtain ⟨g1, g2⟩ := he.ge hs
    by_cases eb : n + 1 = b
    · obtain ⟨q, e2⟩ := hp.go eb ht
      rw [e2]
      cases he with
      | one hB =>
        have hn : ¬ S (n + 1) := fun z => by have := (hS (n + 1) (by omega)).mp z; cases this
        rw [no hn, eb]
        refine .run b f q ?_ fun m hm z => ?_
        · have hc : c + 1 = M := hc; omega
        · have := (hS m (by omega)).mp z; cases this
      | @now _ _ e0 hB t he0 =>
        have hy : S (n + 1) := (hS (n + 1) (by omega)).mpr (by rw [eb]; exact List.mem_cons_self ..)
        obtain ⟨k1, k2⟩ := q.fall hw
        obtain ⟨_, k4⟩ := k1 (by omega)
        have w := wait_pos hw f
        obtain ⟨z1, _⟩ := he0.ge hs
        rw [yes hy q.runs, eb]
        refine .wait _ _ e0 (k4 t) (by omega) he0 ?_ fun m hm => ?_
        · have hc : c + (1 + e0.1) = M := hc; omega
        · rw [hS m (by omega)]
          show m ∈ b :: e0.2 ↔ _
          rw [List.mem_cons]
          exact ⟨fun z => z.elim (fun z => by omega) id, .inr⟩
      | @rest _ _ e0 hB t he0 =>
        obtain ⟨z1, _⟩ := he0.ge hs
        have hn : ¬ S (n + 1) := fun z => by
          rcases List.mem_cons.mp ((hS (n + 1) (by omega)).mp z) with z | z
          · omega
          · have := z1 _ z; omega
        rw [no hn, eb]
        refine .rest b f e0 q h1 (Int.le_refl _) (by omega) t he0 ?_ fun m hm => ?_
        · have hc : c + (1 + e0.1) = M := hc; omega
        · rw [hS m (by omega)]
          show m ∈ (b + s.takes + s.stays) :: e0.2 ↔ _
          rw [List.mem_cons]
    · obtain ⟨q, e2⟩ := hp.wait (s := s) (by omega)
      have hn : ¬ S (n + 1) := fun z => by
        have := g1 _ ((hS (n + 1) (by omega)).mp z)
        omega
      rw [e2, no hn]
      exact .wait b f e q h1 he (by omega) fun m hm => hS m (by omega)
  | run b f hr hc hS =>
    obtain ⟨q, e2⟩ := hr.next ht hst
    rw [e2, no (hS (n + 1) (by omega))]
    exact .run b f q (by omega) fun m hm => hS m (by omega)
  | rest b f e hr h1 hb hlt t he hc hS =>
    obtain ⟨q, e2⟩ := hr.next ht hst
    obtain ⟨z1, _⟩ := he.ge hs
    rw [e2]
    by_cases eb : n + 1 = b + s.takes + s.stays
    · have hy : S (n + 1) := (hS (n + 1) (by omega)).mpr (.inl eb)
      obtain ⟨_, k2⟩ := q.fall hw
      obtain ⟨_, k4⟩ := k2 (by omega) (by omega) (by omega) hst
      rw [yes hy q.runs]
      have he' : Ent s B (n + 1 + s.waits) 1 e := by rw [eb]; exact he
      refine .wait _ _ e (k4 t) (by omega) he' (by omega) fun m hm => ?_
      rw [hS m (by omega)]
      exact ⟨fun z => z.elim (fun z => by omega) id, .inr⟩
    · have hn : ¬ S (n + 1) := fun z => by
        rcases (hS (n + 1) (by omega)).mp z with z | z
        · exact eb z
        · have := z1 _ z; omega
      rw [no hn]
      exact .rest b f e q h1 (by omega) (by omega) t he (by omega) fun m hm => hS m (by omega)
theorem Now.last (hs : SvOk' s) {S : Int → Prop} {r : Srv} {c M : Int} (h : Now s B S (B : Int) r c M) : c = M := by
  cases h with
  | wait b f e hp h1 he hc hS =>
    have := he.le
    cases hp <;> omega
  | run b f hr hc hS => exact hc
  | rest b f e hr h1 hb hlt t he hc hS =>
    have := he.le
    have := hs.waits
    omega
open Classical in
theorem Pot.turn (hs : SvOk' s) {N : Int → Nat → Int} (hN : Num s B N) {S : Int → Prop} {n : Int} {r : Srv} {c M : Int} (hn : n + 1 ≤ (B : Int)) (h : Pot s N n r c M) : Pot s N (n + 1) (turnS s S n r) (c + (begs s r : Int)) M := by
  have q := h.beat hs
  unfold turnS
  split
  · next z => exact q.fall hs hN hn z.2
  · exact q
/-! the whole run -/
noncomputable def runS (s : Svc) (S : Int → Prop) : Nat → Srv × Int
  | 0 => (srv0, 0)
  | n + 1 => (turnS s S (n : Int) (runS s S n).1, (runS s S n).2 + (begs s (runS s S n).1 : Int))
theorem run_most (hs : SvOk' s) {N : Int → Nat → Int} (hN : Num s B N) (S : Int → Prop) : ∀ n : Nat, n ≤ B → Pot s N (n : Int) (runS s S n).1 (runS s S n).2 (N 1 0)
  | 0, _ => .wait 1 0 (.off rfl) (Int.le_refl _) (by have := hs.tries; omega) (by show (0 : Int) + N 1 0 ≤ _; omega)
  | n + 1, h => by
    have := (run_most hs hN S n (by omega)).turn hs hN (S := S) (by omega)
    exact this
theorem run_le (hs : SvOk' s) {N : Int → Nat → Int} (hN : Num s B N) (S : Int → Prop) : (runS s S B).2 ≤ N 1 0 := (run_most hs hN S B (Nat.le_refl _)).last hN (Int.le_refl _)
theorem run_now (hs : SvOk' s) {e : Mr} (he : Ent s B 1 0 e) {S : Int → Prop} (hS : ∀ m, 0 < m → (S m ↔ m ∈ e.2)) : ∀ n : Nat, Now s B S (n : Int) (runS s S n).1 (runS s S n).2 e.1
  | 0 => .wait 1 0 e (.off rfl) (Int.le_refl _) he (by show (0 : Int) + e.1 = _; omega) fun m hm => hS m (by omega)
  | n + 1 => (run_now hs he hS n).turn hs
theorem run_exact (hs : SvOk' s) {e : Mr} (he : Ent s B 1 0 e) {S : Int → Prop} (hS : ∀ m, 0 < m → (S m ↔ m ∈ e.2)) : (runS s S B).2 = e.1 := (run_now hs he hS B).last hs
/-- most_of tells a row of such falls, and the most -/
theorem most_tells (hs : SvOk' s) : (B = 0 ∧ mostF s B = (0, [])) ∨ (1 ≤ B ∧ Ent s B 1 0 (mostF s B)) := by
  by_cases c : B = 0
  · subst c; exact .inl ⟨rfl, rfl⟩
  · refine .inr ⟨by omega, ?_⟩
    have hfix := tab_fix (s := s) (B := B) (b := 1) (f := 0) hs.waits (by have := hs.takes; omega) (by have := hs.stays; omega) (Nat.le_refl _) (by omega) (by have := hs.tries; omega)
    have e1 : mostF s B = bestF s (tabM s B B) (1 : Nat) 0 := by
      unfold mostF
      rw [show lookM (tabM s B B) [1, 0] = _ from hfix]
      rfl
    rw [e1]
    exact ent_of hs B 1 0 _ (by omega) (Int.le_refl _) hfix
theorem most_num (hs : SvOk' s) : (mostF s B).1 = numM s B 1 0 := by
  unfold mostF numM
  show ((lookM (tabM s B B) [1, 0]).getD (0, [])).1 = match lookM (tabM s B B) [1, 0] with | some e => e.1 | none => 0
  cases lookM (tabM s B B) [1, 0] <;> rfl
/-- by the falls that are told it begins so often -/
theorem most_run (hs : SvOk' s) {S : Int → Prop} (hS : ∀ m, 0 < m → (S m ↔ m ∈ (mostF s B).2)) : (runS s S B).2 = (mostF s B).1 := by
  rcases most_tells (B := B) hs with ⟨rfl, e⟩ | ⟨_, he⟩
  · rw [e]; rfl
  · exact run_exact hs he hS
/-- by others not oftener -/
theorem most_le (hs : SvOk' s) (S : Int → Prop) : (runS s S B).2 ≤ (mostF s B).1 := by
  rw [most_num hs]
  exact run_le hs (numM_num hs.waits (by have := hs.takes; omega) (by have := hs.stays; omega)) S
theorem most_rise (hs : SvOk' s) : (mostF s B).2.Pairwise (· < ·) ∧ ∀ x ∈ (mostF s B).2, 1 ≤ x := by
  rcases most_tells (B := B) hs with ⟨_, e⟩ | ⟨_, he⟩
  · rw [e]; exact ⟨.nil, (fun _ h => nomatch h)⟩
  · exact ⟨(he.ge hs).2, (he.ge hs).1⟩
end
end Kr

namespace Kr
open PySem Dl
/-! ### a keeper of one service alone -/
def aloneS (s : Svc) : Svc := ⟨[], s.takes, s.ends, s.waits, s.stays, s.tries⟩
def aloneP (s : Svc) : Pl := [aloneS s]
theorem alone_at {s : Svc} {i : Nat} {x : Svc} (h : (aloneP s)[i]? = some x) : i = 0 ∧ x = aloneS s := by
  cases i with
  | zero => cases h; exact ⟨rfl, rfl⟩
  | succ i => cases h
theorem alone_wants {s : Svc} (i x : Nat) : x ∉ wantsOf (aloneP s) i := fun h => by
  unfold wantsOf at h
  cases e : (aloneP s)[i]? with
  | none => rw [e] at h; cases h
  | some y =>
    rw [e] at h
    obtain ⟨_, rfl⟩ := alone_at e
    cases h
theorem alone_good {m i : Nat} {s : Svc} (g : GoodS m i s) : Good (aloneP s) := by
  refine ⟨⟨Nat.le_refl _, by show 1 ≤ 12; decide, fun j x hx => ?_⟩, ⟨fun _ => 0, fun i x hx => absurd hx (alone_wants i x)⟩⟩
  obtain ⟨rfl, rfl⟩ := alone_at hx
  exact ⟨.nil, (fun x hx => nomatch hx), g.takes, g.ends, g.waits, g.stays, g.tries⟩
theorem alone_ok {m i : Nat} {s : Svc} (g : GoodS m i s) : SvOk' (aloneS s) := ⟨g.takes.1, g.waits.1, g.stays.1, g.tries.1⟩
theorem opt_same (s : Svc) (kv : Mt) (w : Int) (m : Nat) : optM (aloneS s) kv w m = optM s kv w m := rfl
theorem bestF_same (s : Svc) (kv : Mt) (b : Int) (m : Nat) : bestF (aloneS s) kv b m = bestF s kv b m := rfl
theorem rowM_same (s : Svc) (kv : Mt) (b : Int) : ∀ m, rowM (aloneS s) kv b m = rowM s kv b m
  | 0 => rfl
  | m + 1 => by
    show storeM (rowM (aloneS s) kv b m) _ (bestF (aloneS s) (rowM (aloneS s) kv b m) b m) = _
    rw [rowM_same s kv b m, bestF_same]
    rfl
theorem tabM_same (s : Svc) (n : Nat) : ∀ m, tabM (aloneS s) n m = tabM s n m
  | 0 => rfl
  | m + 1 => by
    show rowM (aloneS s) (tabM (aloneS s) n m) _ s.tries.toNat = _
    rw [tabM_same s n m, rowM_same]
    rfl
theorem mostF_same (s : Svc) (n : Nat) : mostF (aloneS s) n = mostF s n := by
  unfold mostF
  rw [tabM_same]
def isBeg (r : LRow) : Bool := decide (r.word = .begins)
def nB (rows : List LRow) : Nat := (rows.filter isBeg).length
theorem nB_app {a b : List LRow} : nB (a ++ b) = nB a + nB b := by unfold nB; rw [List.filter_append, List.length_append]
section
variable {s : Svc} {m0 i0 : Nat}
theorem alone_D0 (g : GoodS m0 i0 s) {st : Kst} (h : 0 ∈ st.goals) : D0 (aloneP s) st := by
  refine ⟨fun x hx => ?_, .inl h, Nat.zero_lt_one⟩
  induction hx with
  | one h => exact alone_wants _ _ h
  | step _ h _ => exact alone_wants _ _ h
theorem nB_beat (g : GoodS m0 i0 s) {st : Kst} {r : Srv} (h : 0 ∈ st.goals) (h3 : st.srvs[0]? = some r) : nB (beatK (aloneP s) st).rows = nB st.rows + begs (aloneS s) r := by
  have hs := (alone_good g).sound
  have hd := alone_D0 g h
  have h2 : (aloneP s)[0]? = some (aloneS s) := rfl
  have e0 : nB (countK (aloneP s) st).rows = nB st.rows := by
    show nB (st.rows ++ (List.range 1).filterMap (toldS (aloneP s) st)) = _
    rw [nB_app]
    have : ((List.range 1).filterMap (toldS (aloneP s) st)).filter isBeg = [] := by
      rw [List.filter_eq_nil_iff]
      intro x hx z
      obtain ⟨i, hi, e⟩ := List.mem_filterMap.mp hx
      unfold toldS at e
      cases q : (countS (svcAt (aloneP s) i) (srvAt st i)).2 with
      | none => rw [q] at e; cases e
      | some w =>
        rw [q] at e
        cases e
        have hw : w = .begins := of_decide_eq_true z
        subst hw
        generalize srvAt st i = rr at q
        obtain ⟨wd, l, fl⟩ := rr
        cases wd <;> unfold countS at q <;> dsimp only at q
        · cases q
        · split at q <;> cases q
        · cases q
        · split at q <;> cases q
        · split at q <;> cases q
        · cases q
    show nB st.rows + (List.filter isBeg _).length = _
    rw [this]
    rfl
  show nB ((countK (aloneP s) st).rows ++ (chosenK (aloneP s) (countK (aloneP s) st)).filterMap (rowOf (st.beats + 1))) = _
  rw [nB_app, e0]
  congr 1
  have hp0 := pick0 hs hd.count
  rw [wordAt_some (beat_get h2 h3).1] at hp0
  unfold chosenK
  show nB ((([0] : List Nat).filterMap fun i => (pickK (aloneP s) (countK (aloneP s) st) i).map fun w => (i, w)).filterMap (rowOf (st.beats + 1))) = _
  unfold begs
  by_cases c : (countS (aloneS s) r).1.word = .off
  · rw [if_pos c] at hp0
    rw [if_pos c, List.filterMap_cons_some (b := (0, Wd.begins)) (by rw [hp0]; rfl)]
    rfl
  · rw [if_neg c] at hp0
    rw [if_neg c, List.filterMap_cons_none (by rw [hp0]; rfl)]
    rfl
theorem nB_fall {p : Pl} {st : Kst} {i : Nat} : nB (fallK p st i).rows = nB st.rows := by
  unfold fallK
  split
  · split
    · show nB ((st.rows ++ [_]) ++ [_]) = _
      rw [nB_app, nB_app]
      rfl
    · show nB (st.rows ++ [_]) = _
      rw [nB_app]
      rfl
  · rfl
open Classical in
noncomputable def simK (p : Pl) (S : Int → Prop) : Nat → Kst
  | 0 => askK p (st0 p) 0
  | n + 1 => if S ((n : Int) + 1) then fallK p (beatK p (simK p S n)) 0 else beatK p (simK p S n)
theorem fall_goals {p : Pl} {st : Kst} {i : Nat} : (fallK p st i).goals = st.goals := by
  unfold fallK
  split
  · split <;> rfl
  · rfl
open Classical in
theorem sim_goals (S : Int → Prop) : ∀ n, 0 ∈ (simK (aloneP s) S n).goals
  | 0 => by
    show 0 ∈ (if 0 ∈ ([] : List Nat) then [] else [] ++ [0])
    rw [if_neg (fun z => nomatch z)]
    exact List.mem_singleton.mpr rfl
  | n + 1 => by
    have ih : 0 ∈ (beatK (aloneP s) (simK (aloneP s) S n)).goals := sim_goals S n
    show 0 ∈ (if _ then _ else _ : Kst).goals
    split
    · rw [fall_goals]; exact ih
    · exact ih
open Classical in
theorem sim_ok (g : GoodS m0 i0 s) (S : Int → Prop) : ∀ n, KOk (aloneP s) (simK (aloneP s) S n)
  | 0 => (KOk.begin (alone_good g).sound).ask (alone_good g).sound Nat.zero_lt_one
  | n + 1 => by
    have ih := (sim_ok g S n).beat (alone_good g).sound
    show KOk _ (if _ then _ else _ : Kst)
    split
    · exact ih.fall Nat.zero_lt_one
    · exact ih
open Classical in
theorem sim_rows (S : Int → Prop) : ∀ n, (simK (aloneP s) S n).rows.length ≤ 4 * n
  | 0 => Nat.le_refl _
  | n + 1 => by
    have ih := sim_rows S n
    have hb := rows_beat (p := aloneP s) (st := simK (aloneP s) S n)
    have hl : (aloneP s).length = 1 := rfl
    show (if _ then _ else _ : Kst).rows.length ≤ _
    split
    · have := rows_fall (p := aloneP s) (st := beatK (aloneP s) (simK (aloneP s) S n)) (i := 0)
      omega
    · omega
open Classical in
theorem sim_run (g : GoodS m0 i0 s) (S : Int → Prop) : ∀ n, (simK (aloneP s) S n).srvs[0]? = some (runS (aloneS s) S n).1 ∧ (nB (simK (aloneP s) S n).rows : Int) = (runS (aloneS s) S n).2
  | 0 => by
    refine ⟨?_, rfl⟩
    show (revive (0 :: allW (aloneP s) 0) [srv0])[0]? = some srv0
    unfold revive
    rw [List.getElem?_mapIdx]
    show some (if _ then srv0 else srv0) = _
    rw [ite_self]
  | n + 1 => by
    obtain ⟨h1, h2⟩ := sim_run g S n
    have hs := (alone_good g).sound
    have hg := sim_goals (s := s) S n
    have b0 := beat_0 hs (alone_D0 g hg) (s := aloneS s) rfl h1
    have b1 := nB_beat g hg h1
    have hc : (nB (beatK (aloneP s) (simK (aloneP s) S n)).rows : Int) = (runS (aloneS s) S (n + 1)).2 := by
      show _ = (runS (aloneS s) S n).2 + (begs (aloneS s) (runS (aloneS s) S n).1 : Int)
      rw [b1, ← h2]
      omega
    show (if S ((n : Int) + 1) then _ else _ : Kst).srvs[0]? = some (turnS (aloneS s) S (n : Int) (runS (aloneS s) S n).1) ∧ (nB (if S ((n : Int) + 1) then _ else _ : Kst).rows : Int) = _
    unfold turnS
    by_cases c : S ((n : Int) + 1)
    · rw [if_pos c, nB_fall]
      refine ⟨?_, hc⟩
      unfold fallK
      rw [wordAt_some b0, srvAt_some b0]
      by_cases q : (step0 (aloneS s) (runS (aloneS s) S n).1).word.runs = true
      · rw [if_pos q, if_pos (show S ((n : Int) + 1) ∧ (step0 (aloneS s) (runS (aloneS s) S n).1).word.runs = true from ⟨c, q⟩)]
        have hlt := (List.getElem?_eq_some_iff.mp b0).1
        split
        · exact List.getElem?_set_self hlt
        · exact List.getElem?_set_self hlt
      · rw [if_neg q, if_neg (show ¬ (S ((n : Int) + 1) ∧ (step0 (aloneS s) (runS (aloneS s) S n).1).word.runs = true) from fun z => q z.2)]
        exact b0
    · rw [if_neg c, if_neg fun z => c z.1]
      exact ⟨b0, hc⟩
/-- by the falls that are told the keeper begins so often -/
theorem sim_most (g : GoodS m0 i0 s) {B : Nat} {S : Int → Prop} (hS : ∀ m, 0 < m → (S m ↔ m ∈ (mostF s B).2)) : (nB (simK (aloneP s) S B).rows : Int) = (mostF s B).1 := by
  rw [(sim_run g S B).2, ← mostF_same]
  exact most_run (alone_ok g) (by rw [mostF_same]; exact hS)
theorem sim_le (g : GoodS m0 i0 s) {B : Nat} (S : Int → Prop) : (nB (simK (aloneP s) S B).rows : Int) ≤ (mostF s B).1 := by
  rw [(sim_run g S B).2, ← mostF_same]
  exact most_le (alone_ok g) S
theorem most_row_rise (g : GoodS m0 i0 s) (B : Nat) : (mostF s B).2.Pairwise (· < ·) := by
  rw [← mostF_same]
  exact (most_rise (alone_ok g)).1
theorem Ent.upto (hs : SvOk' s) {B : Nat} {b : Int} {f : Nat} {e : Mr} (h : Ent s B b f e) : ∀ x ∈ e.2, x ≤ (B : Int) := by
  induction h with
  | one _ => exact fun _ h => nomatch h
  | now hb _ _ ih =>
    intro x hx
    rcases List.mem_cons.mp hx with rfl | hx
    · exact hb
    · exact ih x hx
  | rest hb _ h ih =>
    intro x hx
    rcases List.mem_cons.mp hx with rfl | hx
    · have := h.le
      have := hs.waits
      omega
    · exact ih x hx
theorem most_len (g : GoodS m0 i0 s) (B : Nat) : (mostF s B).2.length ≤ B := by
  have hs := alone_ok g
  rw [← mostF_same]
  have hr := most_rise (B := B) hs
  have hu : ∀ x ∈ (mostF (aloneS s) B).2, x ≤ (B : Int) := by
    rcases most_tells (B := B) hs with ⟨_, e⟩ | ⟨_, he⟩
    · rw [e]; exact fun _ h => nomatch h
    · exact he.upto hs
  have hnd : (mostF (aloneS s) B).2.Nodup := hr.1.imp fun {a b} h e => by omega
  have := Dl.nodup_sub (ns := (List.range B).map fun i => ((i : Nat) : Int) + 1) hnd fun k hk => by
    have h1 := hr.2 k hk
    have h2 := hu k hk
    exact List.mem_map.mpr ⟨(k - 1).toNat, List.mem_range.mpr (by omega), by omega⟩
  rw [List.length_map, List.length_range] at this
  exact this
theorem rise_eq {a b : List Int} (ha : a.Pairwise (· < ·)) (hb : b.Pairwise (· < ·)) (h : ∀ k, k ∈ a ↔ k ∈ b) : a = b := by
  have na : a.Nodup := ha.imp fun {x y} h e => by omega
  have nb : b.Nodup := hb.imp fun {x y} h e => by omega
  exact ((List.perm_ext_iff_of_nodup na nb).mpr h).eq_of_pairwise (fun x y _ _ h1 h2 => by omega) ha hb
end
end Kr

local macro_rules | `(tactic| fail "kkL") => `(tactic| (refine Dl.ev_methW (Kr.rkx_ins Kr.lk_lacks) ⟨_, rfl, ?_⟩; fail "kk"; refine ⟨rfl, ⟨by assumption, _, rfl, by assumption⟩, fun j' s' _ hT => ?_⟩; obtain ⟨e, hs⟩ := hT; have e2 := e.symm; subst e2; cases hs _ rfl; fail "kk"))
local macro_rules | `(tactic| fail "kkI") => `(tactic| (refine Dl.ev_methW (Kr.rkx_ins Kr.lk_is_free) ⟨_, rfl, ?_⟩; fail "kk"; refine ⟨rfl, ⟨by assumption, _, rfl, by assumption⟩, fun j' s' _ hT => ?_⟩; obtain ⟨e, hs⟩ := hT; have e2 := e.symm; subst e2; cases hs _ rfl; fail "kk"))
namespace Kr
open PySem PySem.Spec PyProof.Rows L2 Dl
open Evl (Ex)
section
variable {P : Program} {w : World} {K : PySem.W.Frag} {mg : Str → Option Value} {base : Heap} {CK CS : Addr}
theorem int_inj {i i' : Nat} (e : ([.int (i : Int)] : List PyData) = [.int (i' : Int)]) : i = i' := by
  have e2 : (i : Int) = (i' : Int) := PyData.int.inj (List.head_eq_of_cons_eq e)
  omega
def pFallK (j : KJ) (ds : List PyData) : Prop := KWf j ∧ j.st.rows.length < 99990 ∧ ∃ i : Nat, ds = [.int (i : Int)] ∧ i < j.p.length
def tFallK (j : KJ) (ds : List PyData) (j' : KJ) (s : Slot) : Prop := ∀ i : Nat, ds = [.int (i : Int)] → j' = j.to (fallK j.p j.st i) ∧ s = .pu (.bool (wordAt j.st i).runs)
theorem ok_kfall (D : DfM K CK "fall" "Keeper.fall" s_Keeper_fall ["self", "number"]) (T : KTxt K CK CS) (C : KC K mg) (c_need_service : Cal P w K mg base 2 "need_service" (spP K 2 pIdx tNone)) (m_Keeper_tell : Dl.Met P w K mg base 1 CK "tell" (spM K KJ.me (RKx K CK CS) 2 pTell tTell)) (m_Service_fall : Dl.Met P w K mg base 2 CS "fall" (spM K SvI.a (RSv K CS) 0 pFallS tFallS)) : Dl.Met P w K mg base 3 CK "fall" (spM K KJ.me (RKx K CK CS) 1 pFallK tFallK) := by
  have nd := sc_Keeper_fall.nd
  have g_GIVEN := C.GIVEN
  obtain ⟨vR, uR, hmR, rR, dR⟩ := C.RUNNING.ex
  have g_RUNNING : ∃ u, mg "RUNNING" = some u ∧ RelV vR u := ⟨uR, hmR, rR⟩
  refine metM D sc_Keeper_fall rfl fun f cdv A outer st H E hr => ⟨_, (pss_cons (ps_expr (Dl.pe_c c_need_service hr (pa_cons (Kk.pe_fld (K := K) (pv 0) rfl) (pa_cons (pv 1) pa_nil))))
      (pss_cons (ps_if (pt_cmpR (Kk.op_notIn_seq (K := K)) (Kk.pe_fld (K := K) (pe_ix (Kk.ix_list (K := K)) (Kk.pe_fld (K := K) (pv 0) rfl) (pv 1) (fun _ _ => rfl)) rfl) (C8.pe_gc (by rfl) g_RUNNING) (by rfl)) (pss_one (ps_ret pe_bl)) pss_nil)
      (pss_cons (ps_expr (Dl.pe_m m_Keeper_tell hr (pv 0) (pa_cons (pv 1) (pa_cons pe_str pa_nil))))
      (pss_cons (ps_expr (Dl.pe_m0 m_Service_fall hr (pe_ix (Kk.ix_list (K := K)) (Kk.pe_fld (K := K) (pv 0) rfl) (pv 1) (fun _ _ => rfl))))
      (pss_cons (ps_if (pt_cmpR op_eq (Kk.pe_fld (K := K) (pe_ix (Kk.ix_list (K := K)) (Kk.pe_fld (K := K) (pv 0) rfl) (pv 1) (fun _ _ => rfl)) rfl) (C8.pe_gc (by rfl) g_GIVEN) (nomark _)) (pss_one (ps_expr (Dl.pe_m m_Keeper_tell hr (pv 0) (pa_cons (pv 1) (pa_cons (C8.pe_gc (by rfl) g_GIVEN) pa_nil))))) pss_nil)
      (pss_one (ps_ret pe_bl))))))), fun j ds hn hp => ?_⟩
  obtain ⟨hw, hrows, i, rfl, hi⟩ := hp
  obtain ⟨a, s, r, h1, h2, h3⟩ := hw.at hi
  have hg := hw.good.sound.svc i s h2
  have hf := hw.ok.falls i r s h3 h2
  have ht := hg.tries
  have hwt := hg.waits
  show ExS K _ _ [.ow (RKx K CK CS j), .pu (.int i)]
  fail "kk"
  refine ev_call ?_
  fail "kk"
  refine ⟨rfl, ⟨j.p, i, rfl, hw.good, hi⟩, fun _ _ => ?_⟩
  fail "kk"
  rw [runs_iff]
  refine ifB (fun h => ?_) (fun h => ?_)
  · have h' : r.word.runs = false := by cases q : r.word.runs with
      | false => rfl
      | true => rw [q] at h; cases h
    fail "kk"
    refine ⟨_, _, rfl, endK rfl, .inl ⟨_, rfl, fun i' e => ?_⟩⟩
    cases int_inj e
    unfold fallK
    rw [wordAt_some h3, h', if_neg Bool.false_ne_true]
    exact ⟨rfl, rfl⟩
  · have h' : r.word.runs = true := by cases q : r.word.runs with
      | true => rfl
      | false => rw [q] at h; cases h
    fail "kk"
    refine ev_methW (rkx_ins lk_tell) ⟨_, rfl, ?_⟩
    fail "kk"
    refine ⟨rfl, ⟨by omega, i, .falls, rfl⟩, fun j' s' _ hT => ?_⟩
    obtain ⟨rfl, rfl⟩ := hT i .falls rfl
    fail "kk"
    refine evs_meth (CK := CK) lk_fall (fun _ _ _ _ h => h.1) ?_
    fail "kk"
    refine ⟨rfl, rfl, ⟨rfl, hf.1, by show r.falls ≤ 9; omega, by show 0 ≤ s.waits; omega, by show s.waits ≤ 600; omega⟩, fun r' s' hT => ?_⟩
    obtain ⟨_, er, rfl⟩ := hT
    cases (SvI.mk.inj er).2.2
    have hlt : i < (tellK j.st i .falls).srvs.length := by show i < j.st.srvs.length; rw [hw.ok.len]; exact hi
    have h4 : (setSrv (tellK j.st i .falls) i (fallS s r)).srvs[i]? = some (fallS s r) := List.getElem?_set_self hlt
    have fin : ∀ st', st' = fallK j.p j.st i → ∃ i' R2, ([Slot.ow (RKx K CK CS (j.to st')), .pu (.int i)] : List Slot)[0]? = some (.ow R2) ∧ EndR KJ.me (RKx K CK CS) j i' R2 ∧ RtG (tFallK j [.int i] i') (.pu (.bool true)) [Slot.ow (RKx K CK CS (j.to st')), .pu (.int i)] := fun st' est => by
      subst est
      refine ⟨_, _, rfl, endK rfl, .inl ⟨_, rfl, fun i' e => ?_⟩⟩
      cases int_inj e
      rw [wordAt_some h3, h']
      exact ⟨rfl, rfl⟩
    fail "kk"
    refine ifB (fun hgv => ?_) (fun hgv => ?_)
    · have hgv' := of_decide_eq_true hgv
      fail "kk"
      refine ev_methW (rkx_ins lk_tell) ⟨_, rfl, ?_⟩
      fail "kk"
      refine ⟨rfl, ⟨by show (j.st.rows ++ [_]).length < _; rw [List.length_append]; show _ + 1 < _; omega, i, .given, rfl⟩, fun j' s' _ hT => ?_⟩
      obtain ⟨rfl, rfl⟩ := hT i .given rfl
      fail "kk"
      refine fin _ ?_
      unfold fallK
      rw [wordAt_some h3, h', if_pos rfl, svcAt_some h2, srvAt_some h3, if_pos hgv']
    · have hgv' := of_decide_eq_false hgv
      fail "kk"
      refine fin _ ?_
      unfold fallK
      rw [wordAt_some h3, h', if_pos rfl, svcAt_some h2, srvAt_some h3, if_neg hgv']
def chD (x : Nat × Wd) : PyData := .tuple [.int (x.1 : Int), .str x.2.s]
def tChosen (j : KJ) (_ : List PyData) (j' : KJ) (s : Slot) : Prop := j' = j ∧ s = .ow (RL K ((chosenK j.p j.st).map chD))
theorem pick_step {p : Pl} {st : Kst} {k : Nat} : (List.range (k + 1)).filterMap (fun i => (pickK p st i).map fun w => (i, w)) = (List.range k).filterMap (fun i => (pickK p st i).map fun w => (i, w)) ++ (match pickK p st k with | some w => [(k, w)] | none => []) := by
  rw [List.range_succ, List.filterMap_append]
  congr 1
  cases h : pickK p st k with
  | none => simp [h]
  | some w => simp [h]
theorem ok_chosen (D : DfM K CK "chosen" "Keeper.chosen" s_Keeper_chosen ["self"]) (T : KTxt K CK CS) (B : Bn mg) (C : KC K mg) (m_Keeper_due : Dl.Met P w K mg base 2 CK "due" (spM K KJ.me (RKx K CK CS) 0 pNone (tDue (K := K)))) (m_Keeper_lacks : Dl.Met P w K mg base 2 CK "lacks" (spM K KJ.me (RKx K CK CS) 1 pOne tLacks)) (m_Keeper_is_free : Dl.Met P w K mg base 2 CK "is_free" (spM K KJ.me (RKx K CK CS) 1 pOne tFree)) : Dl.Met P w K mg base 3 CK "chosen" (spM K KJ.me (RKx K CK CS) 0 pNone (tChosen (K := K))) := by
  have nd := sc_Keeper_chosen.nd
  have g_OFF := C.OFF
  have g_BEGINS := C.BEGINS
  have g_UP := C.UP
  have g_ENDS := C.ENDS
  have g_AGAIN := C.AGAIN
  refine metM D sc_Keeper_chosen rfl fun f cdv A outer st H E hr => ⟨_, (pss_cons (ps_set (i := 1) nd rfl (Or.inl rfl) (Dl.pe_m0 m_Keeper_due hr (pv 0)))
      (pss_cons (ps_set (i := 2) nd rfl (Or.inl rfl) (pe_lst pa_nil))
      (pss_cons (ps_for PassesOwn.never rfl (Kk.pi_enum (K := K) (by rfl) B.enumerate (pa_cons (Kk.pe_fld (K := K) (pv 0) rfl) pa_nil)) (Kk.pg_tup (K := K) (n := 2) (by rfl) (pgs_cons (pg_name (i := 3) nd rfl (Or.inl rfl)) (pgs_cons (pg_name (i := 4) nd rfl (Or.inl rfl)) pgs_nil))) (pss_one (ps_if (PW.pt (pw_and (pt_cmpR (Kk.op_in_seq (K := K)) (Kk.pe_fld (K := K) (pv 4) rfl) (pe_tup (pa_cons (C8.pe_gc (by rfl) g_BEGINS) (pa_cons (C8.pe_gc (by rfl) g_UP) pa_nil))) (by rfl)) (pw_and (PW.pt (pw_or (pt_cmpR (Kk.op_notIn_seq (K := K)) (pv 3) (pv 1) (by rfl)) (pw_or1 (pt_val (Dl.pe_m m_Keeper_lacks hr (pv 0) (pa_cons (pv 3) pa_nil)))))) (pw_and1 (pt_val (Dl.pe_m m_Keeper_is_free hr (pv 0) (pa_cons (pv 3) pa_nil))))))) (pss_one (ps_expr (Kk.pe_bm (K := K) PySem.F.plainAttrs_list PySem.F.slot_list_append PySem.F.type_list_append mt_append (pv 2) (pa_cons (pe_tup (pa_cons (pv 3) (pa_cons (C8.pe_gc (by rfl) g_ENDS) pa_nil))) pa_nil)))) (pss_one (ps_if (PW.pt (pw_and (pt_cmpR op_eq (Kk.pe_fld (K := K) (pv 4) rfl) (C8.pe_gc (by rfl) g_OFF) (nomark _)) (pw_and (pt_cmpR (Kk.op_in_seq (K := K)) (pv 3) (pv 1) (by rfl)) (pw_and1 (pt_not (pt_val (Dl.pe_m m_Keeper_lacks hr (pv 0) (pa_cons (pv 3) pa_nil)))))))) (pss_one (ps_expr (Kk.pe_bm (K := K) PySem.F.plainAttrs_list PySem.F.slot_list_append PySem.F.type_list_append mt_append (pv 2) (pa_cons (pe_tup (pa_cons (pv 3) (pa_cons (C8.pe_gc (by rfl) g_BEGINS) pa_nil))) pa_nil)))) (pss_one (ps_if (PW.pt (pw_and (pt_cmpR op_eq (Kk.pe_fld (K := K) (pv 4) rfl) (C8.pe_gc (by rfl) g_AGAIN) (nomark _)) (pw_and1 (pt_cmpR (Kk.op_notIn_seq (K := K)) (pv 3) (pv 1) (by rfl))))) (pss_one (ps_expr (Kk.pe_bm (K := K) PySem.F.plainAttrs_list PySem.F.slot_list_append PySem.F.type_list_append mt_append (pv 2) (pa_cons (pe_tup (pa_cons (pv 3) (pa_cons (C8.pe_gc (by rfl) g_OFF) pa_nil))) pa_nil)))) pss_nil)))))))
      (pss_one (ps_ret (pv 2)))))), fun j ds hn hp => ?_⟩
  obtain ⟨hw, rfl⟩ := hp
  have h12 := hw.good.sound.few
  have hsv := hw.sv
  show ExS K _ _ [.ow (RKx K CK CS j), .non, .non, .non, .non]
  fail "kk"
  refine ev_methW (rkx_ins lk_due) ⟨_, rfl, ?_⟩
  fail "kk"
  refine ⟨rfl, ⟨hw, rfl⟩, fun j' s' _ hT => ?_⟩
  obtain ⟨e, rfl⟩ := hT
  subst j'
  fail "kk"
  let acc : Nat → List (Nat × Wd) := fun k => (List.range k).filterMap (fun i => (pickK j.p j.st i).map fun w => (i, w))
  refine xs_forRE (evk_services T rfl ⟨j.x.sl, j.x.sv, rfl, fun k δ' => ∃ x3 x4, δ' = [.ow (RKx K CK CS j), .ow (RL K (listD (dueK j.p j.st))), .ow (RL K ((acc k).map chD)), x3, x4], ?_, ⟨_, _, rfl⟩, ?_, ?_⟩)
  · rintro k _ ⟨x3, x4, rfl⟩
    exact ⟨0, _, rfl, shk_services⟩
  · rintro k a _ h1 ⟨x3, x4, rfl⟩
    have hk := (List.getElem?_eq_some_iff.mp h1).1
    rw [hsv] at hk
    obtain ⟨a', s, r, h1', h2, h3⟩ := hw.at hk
    cases h1.symm.trans h1'
    have hal : (acc k).length ≤ k := by
      have := List.length_filterMap_le (fun i => (pickK j.p j.st i).map fun w => (i, w)) (List.range k)
      rw [List.length_range] at this
      exact this
    have hlen : ((acc k).map chD).length < 100000 := by rw [List.length_map]; omega
    have fin : ∀ (o : Option Wd), pickK j.p j.st k = o → ∃ x3 x4, ([Slot.ow (RKx K CK CS j), .ow (RL K (listD (dueK j.p j.st))), .ow (RL K ((acc k).map chD ++ (match o with | some w => [chD (k, w)] | none => []))), .pu (.int k), .ow (RRef a)] : List Slot) = [.ow (RKx K CK CS j), .ow (RL K (listD (dueK j.p j.st))), .ow (RL K ((acc (k + 1)).map chD)), x3, x4] := fun o ho => by
      refine ⟨.pu (.int k), .ow (RRef a), ?_⟩
      show _ = [_, _, Slot.ow (RL K (((List.range (k + 1)).filterMap (fun i => (pickK j.p j.st i).map fun w => (i, w))).map chD)), _, _]
      rw [pick_step, ho, List.map_append]
      cases o <;> rfl
    have fin0 : pickK j.p j.st k = none → ∃ x3 x4, ([Slot.ow (RKx K CK CS j), .ow (RL K (listD (dueK j.p j.st))), .ow (RL K ((acc k).map chD)), .pu (.int k), .ow (RRef a)] : List Slot) = [.ow (RKx K CK CS j), .ow (RL K (listD (dueK j.p j.st))), .ow (RL K ((acc (k + 1)).map chD)), x3, x4] := fun ho => by
      have := fin none ho
      rw [show (acc k).map chD ++ (match (none : Option Wd) with | some w => [chD (k, w)] | none => []) = (acc k).map chD from List.append_nil _] at this
      exact this
    have hword := wordAt_some h3
    refine ⟨Nat.le_of_ble_eq_true rfl, Nat.le_of_ble_eq_true rfl, ?_⟩
    obtain ⟨wd, l, fl⟩ := r
    cases wd
    · by_cases hd : k ∈ dueK j.p j.st
      · fail "kk"
        rw [decide_eq_true hd]
        fail "kk"
        fail "kkL"
        refine ifB (fun hL => ?_) (fun hL => ?_)
        · have hL : lacksK j.p j.st k = false := by cases q : lacksK j.p j.st k with
            | false => rfl
            | true => rw [q] at hL; cases hL
          fail "kk"
          refine ⟨hlen, ?_⟩
          exact fin (some .begins) (by unfold pickK; rw [hword, if_neg (fun z => z.1.elim (fun q => nomatch q) (fun q => nomatch q)), if_pos ⟨rfl, hd, hL⟩])
        · have hL : lacksK j.p j.st k = true := by cases q : lacksK j.p j.st k with
            | true => rfl
            | false => rw [q] at hL; cases hL
          fail "kk"
          exact fin0 (by unfold pickK; rw [hword, if_neg (fun z => z.1.elim (fun q => nomatch q) (fun q => nomatch q)), if_neg (by rintro ⟨_, _, z⟩; rw [hL] at z; cases z), if_neg (fun z => nomatch z.1)])
      · fail "kk"
        rw [decide_eq_false hd]
        fail "kk"
        exact fin0 (by unfold pickK; rw [hword, if_neg (fun z => z.1.elim (fun q => nomatch q) (fun q => nomatch q)), if_neg (fun z => hd z.2.1), if_neg (fun z => nomatch z.1)])
    · by_cases hd : k ∈ dueK j.p j.st
      · fail "kk"
        rw [decide_eq_true hd]
        fail "kk"
        fail "kkL"
        refine ifB (fun hL => ?_) (fun hL => ?_)
        · fail "kk"
          fail "kkI"
          refine ifB (fun hF => ?_) (fun hF => ?_)
          · fail "kk"
            refine ⟨hlen, ?_⟩
            exact fin (some .ends) (by unfold pickK; rw [hword, if_pos ⟨.inl rfl, .inr hL, hF⟩])
          · fail "kk"
            exact fin0 (by unfold pickK; rw [hword, if_neg (by rintro ⟨_, _, z⟩; rw [hF] at z; cases z), if_neg (fun z => nomatch z.1), if_neg (fun z => nomatch z.1)])
        · fail "kk"
          exact fin0 (by unfold pickK; rw [hword, if_neg (by rintro ⟨_, z, _⟩; rw [hL] at z; exact z.elim (fun z => z hd) (fun z => by cases z)), if_neg (fun z => nomatch z.1), if_neg (fun z => nomatch z.1)])
      · fail "kk"
        rw [decide_eq_false hd]
        fail "kk"
        fail "kkI"
        refine ifB (fun hF => ?_) (fun hF => ?_)
        · fail "kk"
          refine ⟨hlen, ?_⟩
          exact fin (some .ends) (by unfold pickK; rw [hword, if_pos ⟨.inl rfl, .inl hd, hF⟩])
        · fail "kk"
          exact fin0 (by unfold pickK; rw [hword, if_neg (by rintro ⟨_, _, z⟩; rw [hF] at z; cases z), if_neg (fun z => nomatch z.1), if_neg (fun z => nomatch z.1)])
    · by_cases hd : k ∈ dueK j.p j.st
      · fail "kk"
        rw [decide_eq_true hd]
        fail "kk"
        fail "kkL"
        refine ifB (fun hL => ?_) (fun hL => ?_)
        · fail "kk"
          fail "kkI"
          refine ifB (fun hF => ?_) (fun hF => ?_)
          · fail "kk"
            refine ⟨hlen, ?_⟩
            exact fin (some .ends) (by unfold pickK; rw [hword, if_pos ⟨.inr rfl, .inr hL, hF⟩])
          · fail "kk"
            exact fin0 (by unfold pickK; rw [hword, if_neg (by rintro ⟨_, _, z⟩; rw [hF] at z; cases z), if_neg (fun z => nomatch z.1), if_neg (fun z => nomatch z.1)])
        · fail "kk"
          exact fin0 (by unfold pickK; rw [hword, if_neg (by rintro ⟨_, z, _⟩; rw [hL] at z; exact z.elim (fun z => z hd) (fun z => by cases z)), if_neg (fun z => nomatch z.1), if_neg (fun z => nomatch z.1)])
      · fail "kk"
        rw [decide_eq_false hd]
        fail "kk"
        fail "kkI"
        refine ifB (fun hF => ?_) (fun hF => ?_)
        · fail "kk"
          refine ⟨hlen, ?_⟩
          exact fin (some .ends) (by unfold pickK; rw [hword, if_pos ⟨.inr rfl, .inl hd, hF⟩])
        · fail "kk"
          exact fin0 (by unfold pickK; rw [hword, if_neg (by rintro ⟨_, _, z⟩; rw [hF] at z; cases z), if_neg (fun z => nomatch z.1), if_neg (fun z => nomatch z.1)])
    · fail "kk"
      exact fin0 (by unfold pickK; rw [hword, if_neg (fun z => z.1.elim (fun q => nomatch q) (fun q => nomatch q)), if_neg (fun z => nomatch z.1), if_neg (fun z => nomatch z.1)])
    · by_cases hd : k ∈ dueK j.p j.st
      · fail "kk"
        rw [decide_eq_true hd]
        fail "kk"
        exact fin0 (by unfold pickK; rw [hword, if_neg (fun z => z.1.elim (fun q => nomatch q) (fun q => nomatch q)), if_neg (fun z => nomatch z.1), if_neg (fun z => z.2 hd)])
      · fail "kk"
        rw [decide_eq_false hd]
        fail "kk"
        refine ⟨hlen, ?_⟩
        exact fin (some .off) (by unfold pickK; rw [hword, if_neg (fun z => z.1.elim (fun q => nomatch q) (fun q => nomatch q)), if_neg (fun z => nomatch z.1), if_pos ⟨rfl, hd⟩])
    · fail "kk"
      exact fin0 (by unfold pickK; rw [hword, if_neg (fun z => z.1.elim (fun q => nomatch q) (fun q => nomatch q)), if_neg (fun z => nomatch z.1), if_neg (fun z => nomatch z.1)])
  · rintro _ ⟨x3, x4, rfl⟩
    fail "kk"
    refine ⟨_, _, rfl, endK rfl, .inr (.inr ⟨2, _, rfl, by decide, rfl, rfl, ?_⟩)⟩
    rw [hsv]
    rfl
end
end Kr

namespace Kr
open PySem PySem.Spec PyProof.Rows L2 Dl
open Evl (Ex)
section
variable {P : Program} {w : World} {K : PySem.W.Frag} {mg : Str → Option Value} {base : Heap} {CK CS : Addr}
def pBeat (j : KJ) (ds : List PyData) : Prop := KWf j ∧ ds = [] ∧ j.st.rows.length < 99900
def tBeat (j : KJ) (_ : List PyData) (j' : KJ) (s : Slot) : Prop := j' = j.to (beatK j.p j.st) ∧ s = .pu (.bool (decide ((j.st.rows.length : Int) < ((beatK j.p j.st).rows.length : Int))))
theorem KWf.to {j : KJ} (h : KWf j) {st : Kst} (k : KOk j.p st) : KWf (j.to st) := ⟨h.good, k, h.sv⟩
theorem ok_beat (D : DfM K CK "beat" "Keeper.beat" s_Keeper_beat ["self"]) (T : KTxt K CK CS) (B : Bn mg) (C : KC K mg) (m_Service_count : Dl.Met P w K mg base 2 CS "count" (spM K SvI.a (RSv K CS) 0 pCount tCount)) (m_Service_put : Dl.Met P w K mg base 1 CS "put" (spM K SvI.a (RSv K CS) 2 pPut tPut)) (m_Keeper_tell : Dl.Met P w K mg base 1 CK "tell" (spM K KJ.me (RKx K CK CS) 2 pTell tTell)) (m_Keeper_chosen : Dl.Met P w K mg base 3 CK "chosen" (spM K KJ.me (RKx K CK CS) 0 pNone (tChosen (K := K)))) : Dl.Met P w K mg base 4 CK "beat" (spM K KJ.me (RKx K CK CS) 0 pBeat tBeat) := by
  have nd := sc_Keeper_beat.nd
  have g_OFF := C.OFF
  have g_BEGINS := C.BEGINS
  refine metM D sc_Keeper_beat rfl fun f cdv A outer st H E hr => ⟨_, (pss_cons (Kk.ps_fld (K := K) (pv 0) (pe_op op_add (Kk.pe_fld (K := K) (pv 0) rfl) pe_int) rfl)
      (pss_cons (ps_set (i := 1) nd rfl (Or.inl rfl) (pe_callB (Kk.call_len_seq (K := K)) (by rfl) B.len (by decide +kernel) (pa_cons (Kk.pe_fld (K := K) (pv 0) rfl) pa_nil)))
      (pss_cons (ps_for PassesOwn.never rfl (Kk.pi_enum (K := K) (by rfl) B.enumerate (pa_cons (Kk.pe_fld (K := K) (pv 0) rfl) pa_nil)) (Kk.pg_tup (K := K) (n := 2) (by rfl) (pgs_cons (pg_name (i := 2) nd rfl (Or.inl rfl)) (pgs_cons (pg_name (i := 3) nd rfl (Or.inl rfl)) pgs_nil))) (pss_cons (ps_set (i := 4) nd rfl (Or.inl rfl) (Dl.pe_m0 m_Service_count hr (pv 3)))
      (pss_one (ps_if (pt_cmp (pc_notN (pv 4))) (pss_one (ps_expr (Dl.pe_m m_Keeper_tell hr (pv 0) (pa_cons (pv 2) (pa_cons (pv 4) pa_nil))))) pss_nil))))
      (pss_cons (ps_for PassesOwn.never rfl (Kk.pi_list (K := K) (Dl.pe_m0 m_Keeper_chosen hr (pv 0))) (Kk.pg_tup (K := K) (n := 2) (by rfl) (pgs_cons (pg_name (i := 2) nd rfl (Or.inl rfl)) (pgs_cons (pg_name (i := 5) nd rfl (Or.inl rfl)) pgs_nil))) (pss_cons (ps_set (i := 3) nd rfl (Or.inl rfl) (pe_ix (Kk.ix_list (K := K)) (Kk.pe_fld (K := K) (pv 0) rfl) (pv 2) (fun _ _ => rfl)))
      (pss_one (ps_if (pt_cmpR op_eq (pv 5) (C8.pe_gc (by rfl) g_OFF) (nomark _)) (pss_one (ps_expr (Dl.pe_m m_Service_put hr (pv 3) (pa_cons (C8.pe_gc (by rfl) g_OFF) (pa_cons pe_int pa_nil))))) (pss_cons (ps_expr (Dl.pe_m m_Service_put hr (pv 3) (pa_cons (pv 5) (pa_cons (pe_ifExp (pt_cmpR op_eq (pv 5) (C8.pe_gc (by rfl) g_BEGINS) (nomark _)) (pe_ix (Kk.ix_tup (K := K)) (Kk.pe_fld (K := K) (pv 3) rfl) pe_int (fun _ _ => rfl)) (pe_ix (Kk.ix_tup (K := K)) (Kk.pe_fld (K := K) (pv 3) rfl) pe_int (fun _ _ => rfl))) pa_nil))))
      (pss_one (ps_expr (Dl.pe_m m_Keeper_tell hr (pv 0) (pa_cons (pv 2) (pa_cons (pv 5) pa_nil))))))))))
      (pss_one (ps_ret (pe_cmpR op_gt (pe_callB (Kk.call_len_seq (K := K)) (by rfl) B.len (by decide +kernel) (pa_cons (Kk.pe_fld (K := K) (pv 0) rfl) pa_nil)) (pv 1) (nomark _)))))))), fun j ds hn hp => ?_⟩
  obtain ⟨hw, rfl, hrows⟩ := hp
  have h12 := hw.good.sound.few
  have hsv := hw.sv
  have hlen := hw.ok.len
  show ExS K _ _ [.ow (RKx K CK CS j), .non, .non, .non, .non, .non]
  fail "kk"
  refine xs_forRE (evk_services T rfl ⟨j.x.sl, j.x.sv, rfl, fun k δ' => ∃ x2 x3 x4, δ' = [.ow (RKx K CK CS (j.to (countN j.p j.st k))), .pu (.int (((j.st.rows.map logD).length : Nat) : Int)), x2, x3, x4, .non], ?_, ⟨.non, .non, .non, ?_⟩, ?_, ?_⟩)
  · rintro k _ ⟨x2, x3, x4, rfl⟩
    exact ⟨0, _, rfl, shk_services⟩
  · rw [countN_zero]
  · rintro k a _ h1 ⟨x2, x3, x4, rfl⟩
    have hk := (List.getElem?_eq_some_iff.mp h1).1
    rw [hsv] at hk
    obtain ⟨a', s, r, h1', h2, h30⟩ := hw.at hk
    cases h1.symm.trans h1'
    obtain ⟨h3, e0, e1⟩ := countN_step h2 h30
    have hrc := rows_count (p := j.p) (st := j.st) (n := k)
    refine ⟨Nat.le_of_ble_eq_true rfl, Nat.le_of_ble_eq_true rfl, ?_⟩
    have h1a : (j.to (countN j.p j.st k)).x.sv[k]? = some a := h1
    have h2a : (j.to (countN j.p j.st k)).p[k]? = some s := h2
    have h3a : (j.to (countN j.p j.st k)).st.srvs[k]? = some r := h3
    fail "kk"
    refine evs_meth (CK := CK) lk_count (fun _ _ _ _ h => h.1) ?_
    fail "kk"
    refine ⟨rfl, rfl, rfl, fun r' s' hT => ?_⟩
    obtain ⟨_, er, rfl⟩ := hT
    cases (SvI.mk.inj er).2.2
    fail "kk"
    cases hc : (countS s r).2 with
    | none =>
      fail "kk"
      refine ⟨.pu (.int k), .ow (RRef a), .pu .none, ?_⟩
      rw [e0 hc]
      rfl
    | some wd =>
      fail "kk"
      refine ev_methW (rkx_ins lk_tell) ⟨_, rfl, ?_⟩
      fail "kk"
      refine ⟨rfl, ⟨by show (countN j.p j.st k).rows.length < _; omega, k, wd, rfl⟩, fun j' s' _ hT => ?_⟩
      obtain ⟨rfl, rfl⟩ := hT k wd rfl
      fail "kk"
      refine ⟨.pu (.int k), .ow (RRef a), .pu (.str wd.s), ?_⟩
      rw [e1 wd hc]
      rfl
  · rintro _ ⟨x2, x3, x4, rfl⟩
    rw [hsv]
    have hc := hw.ok.count hw.good.sound j.p.length
    have hrc := rows_count (p := j.p) (st := j.st) (n := j.p.length)
    generalize hco : countN j.p j.st j.p.length = c at hc hrc
    have hck : countK j.p j.st = c := hco
    have hwc : KWf (j.to c) := hw.to hc
    show ExS K (tSeq (tFor _ _ _) _) _ _
    fail "kk"
    refine xs_forL (ed_of ?_)
    refine ev_methW (rkx_ins lk_chosen) ⟨_, rfl, ?_⟩
    fail "kk"
    refine ⟨rfl, ⟨hwc, rfl⟩, fun j' s' _ hT => ?_⟩
    obtain ⟨e, rfl⟩ := hT
    have e2 := e.symm
    subst e2
    have hcl := chosenK_len (p := j.p) (st := c)
    refine ⟨_, frz_ow, (chosenK j.p c).map chD, rfl, fun k δ' => ∃ x2 x3 x5, δ' = [.ow (RKx K CK CS (j.to (doneN j.p ((chosenK j.p c).take k) c))), .pu (.int (((j.st.rows.map logD).length : Nat) : Int)), x2, x3, x4, x5], ⟨x2, x3, .non, ?_⟩, ?_, ?_⟩
    · show _ = [Slot.ow (RKx K CK CS (j.to (doneN j.p [] c))), _, _, _, _, _]
      rw [doneN_nil]
      rfl
    · rintro k y _ hy ⟨x2, x3, x5, rfl⟩
      rw [List.getElem?_map] at hy
      cases hk : (chosenK j.p c)[k]? with
      | none => rw [hk] at hy; cases hy
      | some iw =>
        rw [hk] at hy
        cases hy
        obtain ⟨i, wd⟩ := iw
        obtain ⟨hi, hpk⟩ := chosenK_mem.mp (List.mem_of_getElem? hk)
        obtain ⟨a, s, r, h1, h2, h30⟩ := hwc.at (x := i) hi
        obtain ⟨h3, e1⟩ := doneN_step (w := wd) (chosenK_new hk) h2 h30
        have etk : (chosenK j.p c).take (k + 1) = (chosenK j.p c).take k ++ [(i, wd)] := by rw [List.take_add_one, hk]; rfl
        have hrd := rows_done (p := j.p) (st := c) (ch := (chosenK j.p c).take k)
        have hltk : ((chosenK j.p c).take k).length ≤ (chosenK j.p c).length := by rw [List.length_take]; omega
        have hlt := (List.getElem?_eq_some_iff.mp h3).1
        let jk := j.to (doneN j.p ((chosenK j.p c).take k) c)
        have h1a : jk.x.sv[i]? = some a := h1
        have h2a : jk.p[i]? = some s := h2
        have h3a : jk.st.srvs[i]? = some r := h3
        refine turn1 (as := [(2, .int (i : Int)), (5, .str wd.s)]) tg_tup2 (fun q hq => ?_) ?_
        · rcases List.mem_cons.mp hq with rfl | hq
          · exact Nat.le_of_ble_eq_true rfl
          · rw [List.mem_singleton.mp hq]; exact Nat.le_of_ble_eq_true rfl
        show ExS K _ _ [.ow (RKx K CK CS jk), _, .pu (.int i), x3, x4, .pu (.str wd.s)]
        fail "kk"
        rcases pickK_word hpk with ⟨rfl, _⟩ | ⟨rfl, _⟩ | ⟨rfl, _⟩
        · fail "kk"
          refine evs_meth (CK := CK) lk_put (fun _ _ _ _ h => h.1) ?_
          fail "kk"
          refine ⟨rfl, rfl, ⟨.ends, _, rfl⟩, fun r' s' hT => ?_⟩
          obtain ⟨er, rfl⟩ := hT.2 .ends _ rfl
          cases (SvI.mk.inj er).2.2
          fail "kk"
          refine ev_methW (rkx_ins lk_tell) ⟨_, rfl, ?_⟩
          fail "kk"
          refine ⟨rfl, ⟨by show (doneN j.p ((chosenK j.p c).take k) c).rows.length < _; omega, i, .ends, rfl⟩, fun j' s' _ hT => ?_⟩
          obtain ⟨rfl, rfl⟩ := hT i .ends rfl
          fail "kk"
          refine ⟨.pu (.int i), .ow (RRef a), .pu (.str Wd.ends.s), ?_⟩
          rw [etk, e1]
          rfl
        · fail "kk"
          refine evs_meth (CK := CK) lk_put (fun _ _ _ _ h => h.1) ?_
          fail "kk"
          refine ⟨rfl, rfl, ⟨.begins, _, rfl⟩, fun r' s' hT => ?_⟩
          obtain ⟨er, rfl⟩ := hT.2 .begins _ rfl
          cases (SvI.mk.inj er).2.2
          fail "kk"
          refine ev_methW (rkx_ins lk_tell) ⟨_, rfl, ?_⟩
          fail "kk"
          refine ⟨rfl, ⟨by show (doneN j.p ((chosenK j.p c).take k) c).rows.length < _; omega, i, .begins, rfl⟩, fun j' s' _ hT => ?_⟩
          obtain ⟨rfl, rfl⟩ := hT i .begins rfl
          fail "kk"
          refine ⟨.pu (.int i), .ow (RRef a), .pu (.str Wd.begins.s), ?_⟩
          rw [etk, e1]
          rfl
        · fail "kk"
          refine evs_meth (CK := CK) lk_put (fun _ _ _ _ h => h.1) ?_
          fail "kk"
          refine ⟨rfl, rfl, ⟨.off, 0, rfl⟩, fun r' s' hT => ?_⟩
          obtain ⟨er, rfl⟩ := hT.2 .off 0 rfl
          cases (SvI.mk.inj er).2.2
          fail "kk"
          refine ⟨.pu (.int i), .ow (RRef a), .pu (.str Wd.off.s), ?_⟩
          rw [etk, e1]
          show [Slot.ow (RKx K CK CS (j.to (setSrv (doneN j.p ((chosenK j.p c).take k) c) i ⟨.off, 0, r.falls⟩))), _, _, _, _, _] = [Slot.ow (RKx K CK CS (j.to { setSrv (doneN j.p ((chosenK j.p c).take k) c) i ⟨.off, 0, r.falls⟩ with rows := (doneN j.p ((chosenK j.p c).take k) c).rows ++ [] })), _, _, _, _, _]
          rw [List.append_nil]
          rfl
    · rintro _ ⟨x2, x3, x5, rfl⟩
      rw [List.length_map, List.take_length]
      fail "kk"
      refine ⟨_, _, rfl, endK (j' := j.to (doneN j.p (chosenK j.p c) c)) rfl, .inl ⟨_, rfl, ?_, ?_⟩⟩
      · show j.to _ = j.to _
        unfold beatK
        rw [hck]
      · unfold beatK
        rw [hck, List.length_map, List.length_map]
end
end Kr

namespace Kr
open PySem PySem.Spec PyProof.Rows L2 Dl
open Evl (Ex)
abbrev SvN := Addr × Option Svc
def RSvN (K : PySem.W.Frag) (CS : Addr) : SvN → Res
  | (a, none) => RH K a [(a, .ins CS [])]
  | (a, some s) => RSv K CS ⟨a, s, srv0⟩
abbrev KpN := Addr × Option (KAd × Pl)
def RKN (K : PySem.W.Frag) (CK CS : Addr) : KpN → Res
  | (a, none) => RH K a [(a, .ins CK [])]
  | (a, some (x, p)) => RKx K CK CS ⟨a, x, p, st0 p⟩
theorem putC_srv {s : Svc} : putC ("falls" : Str) (.d (.int 0)) (putC ("left" : Str) (.d (.int 0)) (putC ("word" : Str) (.d (.str Wd.off.s)) (putC ("plan" : Str) (.d (svcD s)) []))) = srvF s srv0 := by kernel_rfl
theorem putC_kep {p : Pl} {sl gl rl : Addr} {sv : List Addr} : putC ("beats" : Str) (.d (.int 0)) (putC ("rows" : Str) (.r rl) (putC ("goals" : Str) (.r gl) (putC ("services" : Str) (.r sl) (putC ("plan" : Str) (.d (planD p)) [])))) = kepF ⟨sl, gl, rl, sv⟩ p 0 := by kernel_rfl
section
variable {P : Program} {w : World} {K : PySem.W.Frag} {mg : Str → Option Value} {base : Heap} {CK CS : Addr}
def pSvN (i : SvN) (ds : List PyData) : Prop := i.2 = none ∧ ∃ s, ds = [svcD s]
def tSvN (i : SvN) (ds : List PyData) (i' : SvN) (sl : Slot) : Prop := sl = .pu .none ∧ ∀ s, ds = [svcD s] → i' = (i.1, some s)
theorem len_put {f : Str} {v : CV} {fs : List (Str × CV)} : (putC f v fs).length ≤ fs.length + 1 := by
  induction fs with
  | nil => exact Nat.le_refl _
  | cons x r ih =>
    obtain ⟨g, y⟩ := x
    show (if g = f then (g, v) :: r else (g, y) :: putC f v r).length ≤ _
    split
    · simp
    · simp only [List.length_cons]; omega
theorem ok_service_init (D : DfI K mg CS "Service" "Service.__init__" s_Service___init__ ["self", "plan"]) (T : KTxt K CK CS) (C : KC K mg) : Mak P w K mg base 1 "Service" CS (spM K (fun i : SvN => i.1) (RSvN K CS) 1 pSvN tSvN) := by
  have nd := sc_Service___init__.nd
  have g_OFF := C.OFF
  refine makM D sc_Service___init__ rfl fun f cdv A outer st H E hr => ⟨_, (pss_cons (Kk.ps_fld (K := K) (pv 0) (pv 1) rfl)
      (pss_cons (Kk.ps_fld (K := K) (pv 0) (C8.pe_gc (by rfl) g_OFF) rfl)
      (pss_cons (Kk.ps_fld (K := K) (pv 0) pe_int rfl)
      (pss_one (Kk.ps_fld (K := K) (pv 0) pe_int rfl))))), fun i ds hn hp => ?_⟩
  obtain ⟨a, o⟩ := i
  obtain ⟨h, s, rfl⟩ := hp
  cases (show o = none from h)
  show ExS K _ _ [.ow (RH K a [(a, .ins CS [])]), .pu (svcD s)]
  refine xs_seq (xs_insD T.clS T.s1 ?_)
  fail "kk"
  refine ⟨a, _, [], rfl, by show 0 < 1000; decide, ?_⟩
  refine xs_seq (xs_insD T.clS T.s2 ?_)
  fail "kk"
  refine ⟨a, _, [], rfl, by have := len_put (f := "plan") (v := .d (svcD s)) (fs := []); simp only [List.length_nil] at this; omega, ?_⟩
  refine xs_seq (xs_insD T.clS T.s3 ?_)
  fail "kk"
  refine ⟨a, _, [], rfl, by have := len_put (f := "plan") (v := .d (svcD s)) (fs := []); have := len_put (f := "word") (v := .d (.str Wd.off.s)) (fs := putC "plan" (.d (svcD s)) []); simp only [List.length_nil] at *; omega, ?_⟩
  refine xs_insD T.clS T.s4 ?_
  fail "kk"
  refine ⟨a, _, [], rfl, by have := len_put (f := "plan") (v := .d (svcD s)) (fs := []); have := len_put (f := "word") (v := .d (.str Wd.off.s)) (fs := putC "plan" (.d (svcD s)) []); have := len_put (f := "left") (v := .d (.int 0)) (fs := putC "word" (.d (.str Wd.off.s)) (putC "plan" (.d (svcD s)) [])); simp only [List.length_nil] at *; omega, ?_⟩
  rw [putC_srv]
  refine ⟨(a, some s), RSv K CS ⟨a, s, srv0⟩, rfl, ⟨rfl, fun v B H M h => ⟨h.1, h⟩⟩, rfl, fun s' e => ?_⟩
  have e1 : svcD s = svcD s' := List.head_eq_of_cons_eq e
  rw [svcD_inj e1]
theorem blocks_sv {D : Addr} : ∀ {bs : List (Addr × Cells)} {p : Pl}, bs.length = p.length → (∀ (i : Nat) b s, bs[i]? = some b → p[i]? = some s → b.2 = [(b.1, .ins CS (srvF s srv0))]) → (bs.map (·.2)).flatten = svCells CS (bs.map (·.1)) p (List.replicate p.length srv0)
  | [], [], _, _ => rfl
  | b :: bs, s :: p, hl, h => by
    have h0 := h 0 b s rfl rfl
    have ih := blocks_sv (D := D) (bs := bs) (p := p) (by simpa using hl) fun i b' s' h1 h2 => h (i + 1) b' s' (by simpa using h1) (by simpa using h2)
    show b.2 ++ (bs.map (·.2)).flatten = (b.1, .ins CS (srvF s srv0)) :: svCells CS (bs.map (·.1)) p (List.replicate p.length srv0)
    rw [h0, ih]
    rfl
  | [], _ :: _, hl, _ => by cases hl
  | _ :: _, [], hl, _ => by cases hl
def pKpN (i : KpN) (ds : List PyData) : Prop := i.2 = none ∧ ∃ p, ds = [planD p] ∧ Good p
def tKpN (i : KpN) (ds : List PyData) (i' : KpN) (sl : Slot) : Prop := sl = .pu .none ∧ ∀ p, ds = [planD p] → ∃ x : KAd, x.sv.length = p.length ∧ i' = (i.1, some (x, p))
theorem ok_keeper_init (D : DfI K mg CK "Keeper" "Keeper.__init__" s_Keeper___init__ ["self", "plan"]) (T : KTxt K CK CS) (B : Bn mg) (c_need_plan : Cal P w K mg base 4 "need_plan" (spP K 1 pGood tNone)) (k_Service : Mak P w K mg base 1 "Service" CS (spM K (fun i : SvN => i.1) (RSvN K CS) 1 pSvN tSvN)) : Mak P w K mg base 5 "Keeper" CK (spM K (fun i : KpN => i.1) (RKN K CK CS) 1 pKpN tKpN) := by
  have nd := sc_Keeper___init__.nd
  refine makM D sc_Keeper___init__ rfl fun f cdv A outer st H E hr => ⟨_, (pss_cons (ps_expr (Dl.pe_c c_need_plan hr (pa_cons (pv 1) pa_nil)))
      (pss_cons (Kk.ps_fld (K := K) (pv 0) (pv 1) rfl)
      (pss_cons (Kk.ps_fld (K := K) (pv 0) (pe_lc (own := [("service", 2)]) rfl nd (Kk.pi_tup (K := K) (pv 1)) (blkOk_by (by kernel_rfl)) (fun _ _ _ _ _ => (pg_name (i := 2) nd rfl (by first | exact Or.inl rfl | exact Or.inr rfl))) (fun _ _ _ _ _ => pts_nil) (fun _ _ _ _ _ => (Dl.pe_mk k_Service hr (pa_cons (pv 2) pa_nil)))) rfl)
      (pss_cons (Kk.ps_fld (K := K) (pv 0) (pe_lst pa_nil) rfl)
      (pss_cons (Kk.ps_fld (K := K) (pv 0) (pe_lst pa_nil) rfl)
      (pss_one (Kk.ps_fld (K := K) (pv 0) pe_int rfl))))))), fun i ds hn hp => ?_⟩
  obtain ⟨a, o⟩ := i
  obtain ⟨h, p, rfl, hg⟩ := hp
  cases (show o = none from h)
  have h12 := hg.sound.few
  show ExS K _ _ [.ow (RH K a [(a, .ins CK [])]), .pu (planD p), .non]
  fail "kk"
  refine ev_call ?_
  fail "kk"
  refine ⟨rfl, ⟨p, rfl, hg⟩, fun _ _ => ?_⟩
  show ExS K (tSeq _ _) _ _
  refine xs_seq (xs_insD T.clK T.k1 ?_)
  fail "kk"
  refine ⟨a, _, [], rfl, by show 0 < 1000; decide, ?_⟩
  show ExS K (tSeq _ _) _ [.ow (RH K a [(a, .ins CK (putC "plan" (.d (planD p)) []))]), .pu (planD p), .non]
  refine xs_seq (xs_insO T.clK T.k2 ?_)
  refine ev_lcTo ?_
  fail "kk"
  refine ⟨by rw [List.length_map]; omega, .inl rfl, Nat.le_of_ble_eq_true rfl, fun k bs => bs.length = k ∧ ∀ (i : Nat) b s, bs[i]? = some b → p[i]? = some s → b.2 = [(b.1, .ins CS (srvF s srv0))], ⟨rfl, fun i b s h => by cases h⟩, ?_, ?_⟩
  · rintro k y bs hy ⟨hbl, hbs⟩
    rw [List.getElem?_map] at hy
    cases hk : p[k]? with
    | none => rw [hk] at hy; cases hy
    | some s =>
      rw [hk] at hy
      cases hy
      simp only [List.set_cons_zero, List.set_cons_succ]
      refine ev_make ?_
      fail "kk"
      refine ⟨rfl, fun x => ⟨(x, none), rfl, fun B H dx hx => ⟨rfl, fun y hy => by rw [List.mem_singleton.mp hy]; exact ⟨dx, [], hx, .nil⟩, by simp, fun c => by simp⟩, ⟨rfl, s, rfl⟩, fun i' s' ea hT => ?_⟩⟩
      obtain ⟨rfl, hT⟩ := hT
      cases hT s rfl
      refine ⟨rfl, rfl, x, _, rfl, by rw [List.length_append, hbl]; rfl, fun i b s' hb hs' => ?_⟩
      by_cases hi : i < bs.length
      · rw [List.getElem?_append_left hi] at hb
        exact hbs i b s' hb hs'
      · rw [List.getElem?_append_right (by omega)] at hb
        have : i = bs.length := by
          have := (List.getElem?_eq_some_iff.mp hb).1
          simp at this
          omega
        subst this
        rw [Nat.sub_self] at hb
        cases hb
        rw [hbl, hk] at hs'
        cases hs'
        rfl
  · rintro bs hbl ⟨_, hbs⟩ D
    rw [List.length_map] at hbl
    refine .inl ⟨D, _, rfl, a, _, [], rfl, by have := len_put (f := "plan") (v := .d (planD p)) (fs := []); simp only [List.length_nil] at this; omega, ?_⟩
    have el1 : (putC ("services" : Str) (.r D) (putC ("plan" : Str) (.d (planD p)) [])).length ≤ 2 := by
      have := len_put (f := "plan") (v := .d (planD p)) (fs := [])
      have := len_put (f := "services") (v := .r D) (fs := putC "plan" (.d (planD p)) [])
      simp only [List.length_nil] at *
      omega
    have el2 : ∀ g : Addr, (putC ("goals" : Str) (.r g) (putC ("services" : Str) (.r D) (putC ("plan" : Str) (.d (planD p)) []))).length ≤ 3 := fun g => by
      have := len_put (f := "goals") (v := .r g) (fs := putC "services" (.r D) (putC "plan" (.d (planD p)) []))
      omega
    have el3 : ∀ g l : Addr, (putC ("rows" : Str) (.r l) (putC ("goals" : Str) (.r g) (putC ("services" : Str) (.r D) (putC ("plan" : Str) (.d (planD p)) [])))).length ≤ 4 := fun g l => by
      have := len_put (f := "rows") (v := .r l) (fs := putC "goals" (.r g) (putC "services" (.r D) (putC "plan" (.d (planD p)) [])))
      have := el2 g
      omega
    show ExS K (tSeq _ _) _ [.ow (RH K a ((a, .ins CK (putC "services" (.r D) (putC "plan" (.d (planD p)) []))) :: ([] ++ blocks D bs))), .pu (planD p), .non]
    refine xs_seq (xs_insO T.clK T.k3 ?_)
    fail "kk"
    refine .inr ⟨[], rfl, a, _, _, rfl, by omega, fun g => ?_⟩
    show ExS K (tSeq _ _) _ [.ow (RH K a ((a, .ins CK (putC "goals" (.r g) (putC "services" (.r D) (putC "plan" (.d (planD p)) [])))) :: (([] ++ blocks D bs) ++ [(g, .lst [])]))), .pu (planD p), .non]
    refine xs_seq (xs_insO T.clK T.k4 ?_)
    fail "kk"
    refine .inr ⟨[], rfl, a, _, _, rfl, by have := el2 g; omega, fun l => ?_⟩
    show ExS K _ _ [.ow (RH K a ((a, .ins CK (putC "rows" (.r l) (putC "goals" (.r g) (putC "services" (.r D) (putC "plan" (.d (planD p)) []))))) :: ((([] ++ blocks D bs) ++ [(g, .lst [])]) ++ [(l, .lst [])]))), .pu (planD p), .non]
    refine xs_insD T.clK T.k5 ?_
    fail "kk"
    refine ⟨a, _, _, rfl, by have := el3 g l; omega, ?_⟩
    rw [putC_kep (sv := bs.map (·.1))]
    refine ⟨(a, some (⟨D, g, l, bs.map (·.1)⟩, p)), _, rfl, ⟨rfl, fun v B H M h => ⟨h.1, RH.perm ?_ h⟩⟩, rfl, fun p' e => ⟨⟨D, g, l, bs.map (·.1)⟩, ?_, ?_⟩⟩
    · refine .cons _ (.cons _ ?_)
      show (((bs.map (·.2)).flatten ++ [(g, Cell.lst [])]) ++ [(l, Cell.lst [])]).Perm ((g, Cell.lst []) :: (l, Cell.lst []) :: svCells CS (bs.map (·.1)) p (List.replicate p.length srv0))
      rw [blocks_sv (D := D) hbl hbs, List.append_assoc]
      exact List.perm_append_comm
    · have e1 : p = p' := planD_inj (List.head_eq_of_cons_eq e)
      subst e1
      show (bs.map (·.1)).length = _
      rw [List.length_map, hbl]
    · have e1 : p = p' := planD_inj (List.head_eq_of_cons_eq e)
      subst e1
      rfl
end
end Kr

namespace Kr
open PySem PySem.Spec PyProof.Rows L2 Dl
open Evl (Ex)
section
variable {P : Program} {w : World} {K : PySem.W.Frag} {mg : Str → Option Value} {base : Heap}
def pBeats (ds : List PyData) : Prop := ∃ n : Nat, ds = [.int (n : Int)] ∧ n ≤ 300
theorem ok_need_beats (D : Df K mg "need_beats" s_need_beats ["beats"]) (B : Bn mg) (hB : Cst K mg "MOST_BEATS" (.int 300)) (c_is_between : Cal P w K mg base 1 "is_between" (spP K 3 pBetween tBetween)) : Cal P w K mg base 2 "need_beats" (spP K 1 pBeats tNone) := by
  have nd := sc_need_beats.nd
  obtain ⟨vM, uM, hmM, rM, dM⟩ := hB.ex
  have g_MOST_BEATS : ∃ u, mg "MOST_BEATS" = some u ∧ RelV vM u := ⟨uM, hmM, rM⟩
  refine calP D sc_need_beats rfl fun f cdv A outer st H E hr => ⟨_, (pss_one (ps_if (pt_not (pt_val (Dl.pe_c c_is_between hr (pa_cons (pv 0) (pa_cons pe_int (pa_cons (C8.pe_gc (by rfl) g_MOST_BEATS) pa_nil)))))) (pss_one ps_never) pss_nil)), fun ds hn hp => ?_⟩
  obtain ⟨n, rfl, h⟩ := hp
  show ExS K _ _ [.pu (.int n)]
  fail "kl"
  refine ev_call ?_
  fail "kl"
  refine ⟨rfl, ⟨_, _, _, rfl⟩, fun r hr => ?_⟩
  rw [hr _ _ _ rfl, betw_yes (by omega) (by omega)]
  fail "kl"
  rfl
def pMB (ds : List PyData) : Prop := ∃ (p : Pl) (i n : Nat), ds = [planD p, .int (i : Int), .int (n : Int)] ∧ Good p ∧ i < p.length ∧ n ≤ 300
def tMB (K : PySem.W.Frag) (ds : List PyData) (z : Dl.Slot) : Prop := ∀ (p : Pl) (i n : Nat), ds = [planD p, .int (i : Int), .int (n : Int)] → ∃ t l, z = .ow (RMo K (mostF (svcAt p i) n) t l)
theorem SvOk.of {p : Pl} (hg : Good p) {i : Nat} {s : Svc} (h : p[i]? = some s) : SvOk s := by
  have g := hg.sound.svc i s h
  exact ⟨g.takes, g.waits, g.stays, g.tries⟩
theorem ok_most_begins (D : Df K mg "most_begins" s_most_begins ["plan", "number", "beats"]) (B : Bn mg) (c_need_plan : Cal P w K mg base 4 "need_plan" (spP K 1 pGood tNone)) (c_need_service : Cal P w K mg base 2 "need_service" (spP K 2 pIdx tNone)) (c_need_beats : Cal P w K mg base 2 "need_beats" (spP K 1 pBeats tNone)) (c_most_of : Cal P w K mg base 3 "most_of" (spN K 2 pMost (tMost K))) : Cal P w K mg base 5 "most_begins" (spN K 3 pMB (tMB K)) := by
  have nd := sc_most_begins.nd
  refine calN D sc_most_begins rfl fun f cdv A outer st H E hr => ⟨_, (pss_cons (ps_expr (Dl.pe_c c_need_plan hr (pa_cons (pv 0) pa_nil)))
      (pss_cons (ps_expr (Dl.pe_c c_need_service hr (pa_cons (pv 0) (pa_cons (pv 1) pa_nil))))
      (pss_cons (ps_expr (Dl.pe_c c_need_beats hr (pa_cons (pv 2) pa_nil)))
      (pss_one (ps_ret (Dl.pe_c c_most_of hr (pa_cons (pe_ix (Kk.ix_tup (K := K)) (pv 0) (pv 1) (fun _ _ => rfl)) (pa_cons (pv 2) pa_nil)))))))), fun ds hn hp => ?_⟩
  obtain ⟨p, i, n, rfl, hg, hi, hn⟩ := hp
  obtain ⟨s, hs, hat⟩ := atI_plan hi
  show ExS K _ _ [.pu (planD p), .pu (.int i), .pu (.int n)]
  fail "kl"
  refine ev_call ?_
  fail "kl"
  refine ⟨rfl, ⟨p, rfl, hg⟩, fun r hr => ?_⟩
  cases (show r = .d .none from hr)
  fail "kl"
  refine ev_call ?_
  fail "kl"
  refine ⟨rfl, ⟨p, i, rfl, hg, hi⟩, fun r hr => ?_⟩
  cases (show r = .d .none from hr)
  fail "kl"
  refine ev_call ?_
  fail "kl"
  refine ⟨rfl, ⟨n, rfl, hn⟩, fun r hr => ?_⟩
  cases (show r = .d .none from hr)
  fail "kl"
  refine ev_callN ?_
  fail "kl"
  refine ⟨_, _, _, rfl, rfl, hat, _, frz_pu, ?_⟩
  fail "kl"
  refine ⟨rfl, ⟨s, n, rfl, SvOk.of hg hs, hn⟩, fun z hz => ?_⟩
  obtain ⟨t, l, rfl⟩ := hz s n rfl
  refine .inr (.inl ⟨_, rfl, fun p' i' n' e => ?_⟩)
  simp only [List.cons.injEq, PyData.int.injEq, and_true] at e
  obtain ⟨e1, e2, e3⟩ := e
  have e4 : i = i' := by omega
  have e5 : n = n' := by omega
  cases planD_inj e1
  subst e4 e5
  rw [svcAt_some hs]
  exact ⟨t, l, rfl⟩
end
end Kr

local macro_rules | `(tactic| fail "kc1") => `(tactic| first
  | fail "krn"
  | ((with_reducible show Dl.EvS _ (L2.tVar _) _ _); first | with_reducible refine Dl.ev_pu rfl ?_ | with_reducible refine Dl.ev_alK rfl ?_ | with_reducible refine Dl.ev_al rfl ?_)
  | ((with_reducible show Dl.EvS _ (L2.tDGet2 _ _ _) _ _); with_reducible refine Dl.ev_tget2 ⟨_, _, rfl, Dl.dt_own⟩ (Dl.ev_tupK ?_))
  | fail "kr1")
local macro_rules | `(tactic| fail "kc") => `(tactic| repeat fail "kc1")
namespace Kr
open PySem PySem.Spec PyProof.Rows L2 Dl
open Evl (Ex)
section
variable {P : Program} {w : World} {K : PySem.W.Frag} {mg : Str → Option Value} {base : Heap} {CK CS : Addr}
def pLWait8 (ds : List PyData) : Prop := ∃ (p : Pl) (i k : Nat), ds = [planD p, .int (i : Int), .int (k : Int)] ∧ (∃ s, p[i]? = some s ∧ 1 ≤ s.waits ∧ s.waits ≤ 20) ∧ 1 ≤ k ∧ k ≤ 9
def tLWait8 (ds : List PyData) (r : Rt) : Prop := ∀ (p : Pl) (i k : Nat), ds = [planD p, .int (i : Int), .int (k : Int)] → r = .d (.int (waitF (svcAt p i).waits (k - 1)))
theorem ok__law_wait8 (D : Df K mg "_law_wait" s__law_wait ["_law_plan_here", "_law_number", "_law_falls"]) (B : Bn mg) : Cal P w K mg base 1 "_law_wait" (spP K 3 pLWait8 tLWait8) := by
  have nd := sc__law_wait.nd
  refine calP D sc__law_wait rfl fun f cdv A outer st H E hr => ⟨_, (pss_cons (ps_set (i := 3) nd rfl (Or.inl rfl) (pe_ix (Kk.ix_tup (K := K)) (pe_ix (Kk.ix_tup (K := K)) (pv 0) (pv 1) (fun _ _ => rfl)) pe_int (fun _ _ => rfl)))
      (pss_cons (ps_for PassesOwn.never rfl (pi_range2 (by rfl) B.range (pa_cons pe_int (pa_cons (pv 2) pa_nil))) (pg_name (i := 4) nd rfl (Or.inl rfl)) (pss_one (ps_set (i := 3) nd rfl (Or.inl rfl) (pe_op op_mul (pv 3) pe_int))))
      (pss_one (ps_ret (pe_callB (call_min2 rfl) (by rfl) B.min (by decide +kernel) (pa_cons pe_int (pa_cons (pv 3) pa_nil))))))), fun ds hn hp => ?_⟩
  obtain ⟨p, i, k, rfl, ⟨s, hs1, hsw1, hsw2⟩, hk1, hk2⟩ := hp
  have hat : atI (p.map svcD) (i : Int) = some (svcD s) := atI_nat' (by rw [List.getElem?_map, hs1]; rfl)
  show ExS K _ _ [.pu (planD p), .pu (.int i), .pu (.int k), .non, .non]
  fail "kl"
  refine ⟨_, _, _, rfl, rfl, hat, ?_⟩
  fail "kl"
  refine xs_forR2 ?_
  fail "kl"
  refine ⟨⟨by omega, by omega, by omega, by omega⟩, fun n δ' => ∃ x4, δ' = [.pu (planD p), .pu (.int i), .pu (.int k), .pu (.int (s.waits * 2 ^ n)), x4], ⟨.non, by rw [Int.pow_zero, Int.mul_one]⟩, fun n δ' hn => ?_, fun δ' => ?_⟩
  · rintro ⟨x4, rfl⟩
    refine turn1_name (Nat.le_of_ble_eq_true rfl) ?_
    have fin : ∃ x4, ([.pu (planD p), .pu (.int i), .pu (.int k), .pu (.int (s.waits * 2 ^ n * 2)), .pu (.int (1 + (n : Int)))] : List Dl.Slot) = [.pu (planD p), .pu (.int i), .pu (.int k), .pu (.int (s.waits * 2 ^ (n + 1))), x4] := ⟨_, by rw [Int.pow_succ, ← Int.mul_assoc]⟩
    fail "kl"
    exact ⟨.inr ⟨by decide, by decide⟩, Nat.le_of_ble_eq_true rfl, _, rfl, fin⟩
  · rintro ⟨x4, rfl⟩
    fail "kl"
    refine ev_cb2I (g := fun i j => if j < i then j else i) ?_
    fail "kl"
    refine rt_d fun p' i' k' e => ?_
    simp only [List.cons.injEq, PyData.int.injEq, and_true] at e
    obtain ⟨e1, e2, e3⟩ := e
    cases planD_inj e1
    have e4 : i = i' := by omega
    have e5 : k = k' := by omega
    subst e4 e5
    rw [svcAt_some hs1, wait_pow (by omega) (by omega), show ((k : Int) - 1).toNat = k - 1 by omega]
    show Rt.d (.int (if s.waits * 2 ^ (k - 1) < 600 then _ else _)) = _
    by_cases c : s.waits * 2 ^ (k - 1) < 600
    · rw [if_pos c, show min 600 (s.waits * 2 ^ (k - 1)) = s.waits * 2 ^ (k - 1) by omega]
    · rw [if_neg c, show min 600 (s.waits * 2 ^ (k - 1)) = 600 by omega]

/-- the law's own table behind some beats: of what it tells -/
structure Tb (s : Svc) (B : Nat) (kv : List (List Int × PyData)) (T : Int → Int → Prop) : Prop where
  yes : ∀ c g, T c g → lookT kv [c, g] = some (.int (numM s B c g.toNat))
  no : ∀ c g, ¬ T c g → lookT kv [c, g] = none
theorem lookT_store (kv : List (List Int × PyData)) (k j : List Int) (e : PyData) : lookT (storeT kv k e) j = if j = k then some e else lookT kv j := by
  unfold storeT
  by_cases ha : (kv.any fun x => decide (x.1 = k)) = true
  · rw [if_pos ha]
    have : ∀ l : List (List Int × PyData), (l.any fun x => decide (x.1 = k)) = true ∨ j ≠ k → lookT (l.map fun x => if x.1 = k then (x.1, e) else x) j = if j = k then some e else lookT l j := fun l => by
      induction l with
      | nil =>
        rintro (h | h)
        · cases h
        · rw [if_neg h]; rfl
      | cons y r ih =>
        intro h
        unfold lookT
        rw [List.map_cons, List.find?_cons, List.find?_cons]
        by_cases hy : y.1 = k
        · rw [if_pos hy]
          by_cases hj : j = k
          · rw [if_pos hj]
            simp [hy, hj]
          · rw [if_neg hj]
            have h1 : decide (y.1 = j) = false := decide_eq_false fun z => hj (z.symm.trans hy)
            rw [h1]
            have := ih (.inr hj)
            rw [if_neg hj] at this
            exact this
        · rw [if_neg hy]
          by_cases hj : y.1 = j
          · have h1 : decide (y.1 = j) = true := decide_eq_true hj
            rw [h1]
            rw [if_neg (fun z => hy (hj.trans z))]
          · have h1 : decide (y.1 = j) = false := decide_eq_false hj
            rw [h1]
            refine ih (h.imp (fun h => ?_) id)
            rw [List.any_cons, Bool.or_eq_true] at h
            exact h.elim (fun z => absurd (of_decide_eq_true z) hy) id
    exact this kv (.inl ha)
  · rw [if_neg ha]
    unfold lookT
    rw [List.find?_append]
    have hn : ∀ x ∈ kv, x.1 ≠ k := fun x hx z => ha (List.any_eq_true.mpr ⟨x, hx, decide_eq_true z⟩)
    by_cases hj : j = k
    · subst hj
      rw [if_pos rfl, List.find?_eq_none.mpr fun x hx z => hn x hx (of_decide_eq_true z)]
      simp
    · rw [if_neg hj]
      have : List.find? (fun x : List Int × PyData => decide (x.1 = j)) [(k, e)] = none := by
        rw [List.find?_eq_none]
        intro x hx z
        rw [List.mem_singleton.mp hx] at z
        exact hj (of_decide_eq_true z).symm
      rw [this]
      cases kv.find? fun x => decide (x.1 = j) <;> rfl
theorem storeT_len (kv : List (List Int × PyData)) (k : List Int) (e : PyData) : (storeT kv k e).length ≤ kv.length + 1 := by
  unfold storeT
  split
  · rw [List.length_map]; omega
  · rw [List.length_append]; exact Nat.le_refl _
def pTab (ds : List PyData) : Prop := ∃ (s : Svc) (B : Nat), ds = [svcD s, .int (B : Int)] ∧ SvOk s ∧ B ≤ 300
def tTab (ds : List PyData) (r : Rt) : Prop := ∀ (s : Svc) (B : Nat), ds = [svcD s, .int (B : Int)] → r = .d (.int (mostF s B).1)
theorem ok__law_table (D : Df K mg "_law_table" s__law_table ["_law_service", "_law_beats"]) (B : Bn mg) (c__law_wait : Cal P w K mg base 1 "_law_wait" (spP K 3 pLWait8 tLWait8)) : Cal P w K mg base 2 "_law_table" (spP K 2 pTab tTab) := by
  have nd := sc__law_table.nd
  refine calP D sc__law_table rfl fun f cdv A outer st H E hr => ⟨_, (pss_cons (ps_set (i := 2) nd rfl (Or.inl rfl) (pe_tup (pa_cons (pv 0) pa_nil)))
      (pss_cons (ps_set (i := 3) nd rfl (Or.inl rfl) pe_dnewT)
      (pss_cons (ps_for PassesOwn.never rfl (pi_range3 (by rfl) B.range (pa_cons (pv 1) (pa_cons pe_int (pa_cons (pe_un un_neg pe_int) pa_nil)))) (pg_name (i := 4) nd rfl (Or.inl rfl)) (pss_one (ps_for PassesOwn.never rfl (pi_range1 (by rfl) B.range (pa_cons (pe_ix (Kk.ix_tup (K := K)) (pv 0) pe_int (fun _ _ => rfl)) pa_nil)) (pg_name (i := 5) nd rfl (Or.inl rfl)) (pss_cons (ps_set (i := 6) nd rfl (Or.inl rfl) pe_int)
      (pss_cons (ps_set (i := 7) nd rfl (Or.inl rfl) (pe_op op_add (pe_op op_add (pv 4) (pe_ix (Kk.ix_tup (K := K)) (pv 0) pe_int (fun _ _ => rfl))) (pe_ix (Kk.ix_tup (K := K)) (pv 0) pe_int (fun _ _ => rfl))))
      (pss_cons (ps_for PassesOwn.never rfl (Kk.pi_list (K := K) (pe_lst (pa_cons (pv 4) (pa_cons (pe_op op_add (pv 4) pe_int) (pa_cons (pe_op op_sub (pv 7) pe_int) (pa_cons (pv 7) (pa_cons (pe_op op_add (pv 7) pe_int) pa_nil))))))) (pg_name (i := 8) nd rfl (Or.inl rfl)) (pss_cons (ps_set (i := 9) nd rfl (Or.inl rfl) (pe_ifExp (pt_cmpR op_ge (pv 8) (pv 7) (nomark _)) pe_int (pe_op op_add (pv 5) pe_int)))
      (pss_one (ps_if (pt_cmpR op_lt (pv 9) (pe_ix (Kk.ix_tup (K := K)) (pv 0) pe_int (fun _ _ => rfl)) (nomark _)) (pss_one (ps_set (i := 6) nd rfl (Or.inl rfl) (pe_callB (call_max2 rfl) (by rfl) B.max (by decide +kernel) (pa_cons (pv 6) (pa_cons (pe_op op_add pe_int (pe_dget2 (Kk.hu hr) (pv 3) (pe_tup (pa_cons (pe_op op_add (pv 8) (Dl.pe_c c__law_wait hr (pa_cons (pv 2) (pa_cons pe_int (pa_cons (pv 9) pa_nil))))) (pa_cons (pv 9) pa_nil))) pe_int ⟨rfl, rfl, rfl, rfl⟩)) pa_nil))))) pss_nil))))
      (pss_one (ps_dput (Kk.hu hr) (pv 3) (pe_tup (pa_cons (pv 4) (pa_cons (pv 5) pa_nil))) (pv 6) rfl))))))))
      (pss_one (ps_ret (pe_dget2 (Kk.hu hr) (pv 3) (pe_tup (pa_cons pe_int (pa_cons pe_int pa_nil))) pe_int ⟨rfl, rfl, rfl, rfl⟩)))))), fun ds hn hp => ?_⟩
  obtain ⟨s, m, rfl, hs, hm⟩ := hp
  have ho : SvOk' s := ⟨hs.takes.1, hs.waits.1, hs.stays.1, hs.tries.1⟩
  have hN := numM_num (s := s) (B := m) ho.waits (by have := ho.takes; omega) (by have := ho.stays; omega)
  have htr := hs.tries
  have hst := hs.stays
  have htk := hs.takes
  have hwt := hs.waits
  show ExS K _ _ [.pu (svcD s), .pu (.int m), .non, .non, .non, .non, .non, .non, .non, .non]
  fail "kc"
  refine ev_dnewT ⟨Nat.le_of_ble_eq_true rfl, _, rfl, ?_⟩
  show ExS K (tSeq _ _) _ [.pu (svcD s), .pu (.int m), .pu (planD [s]), .ow (RDt K []), .non, .non, .non, .non, .non, .non]
  refine xs_seq (xs_forDown ?_)
  fail "kc"
  refine ⟨by omega, Nat.le_of_ble_eq_true rfl, fun n δ' => ∃ kv s4 s5 s6 s7 s8 s9, δ' = [.pu (svcD s), .pu (.int m), .pu (planD [s]), .ow (RDt K kv), s4, s5, s6, s7, s8, s9] ∧ kv.length ≤ 9 * n ∧ Tb s m kv (fun c g => (m : Int) - n < c ∧ c ≤ m ∧ 0 ≤ g ∧ g < s.tries), ⟨_, _, _, _, _, _, _, rfl, Nat.le_refl _, ⟨fun c g h => by omega, fun c g _ => rfl⟩⟩, fun n δ' hn => ?_, fun δ' => ?_⟩
  · rintro ⟨kv, s4, s5, s6, s7, s8, s9, rfl, hkl, hkv⟩
    refine turn1_name (Nat.le_of_ble_eq_true rfl) ?_
    fail "kc"
    refine xs_forR1 ?_
    fail "kc"
    refine ⟨by omega, by omega, fun q δ' => ∃ kv s5 s6 s7 s8 s9, δ' = [.pu (svcD s), .pu (.int m), .pu (planD [s]), .ow (RDt K kv), .pu (.int ((m : Int) - (n : Int))), s5, s6, s7, s8, s9] ∧ kv.length ≤ 9 * n + q ∧ Tb s m kv (fun c g => c ≤ m ∧ 0 ≤ g ∧ g < s.tries ∧ ((m : Int) - n < c ∨ (c = (m : Int) - n ∧ g < (q : Int)))), ⟨kv, _, _, _, _, _, rfl, hkl, ⟨fun c g h => hkv.yes c g (by omega), fun c g h => hkv.no c g (by omega)⟩⟩, fun q δ' hq => ?_, fun δ' => ?_⟩
    · rintro ⟨kv, s5, s6, s7, s8, s9, rfl, hkl, hkv⟩
      have hq : (q : Int) < s.tries := by omega
      have hbm : (m : Int) - (n : Int) ≤ m := by omega
      have hb1 : 1 ≤ (m : Int) - (n : Int) := by omega
      generalize hb : (m : Int) - (n : Int) = b at hbm hb1 hkv
      refine turn1_name (Nat.le_of_ble_eq_true rfl) ?_
      fail "kc"
      show ExS K _ _ [.pu (svcD s), .pu (.int m), .pu (planD [s]), .ow (RDt K kv), .pu (.int b), .pu (.int (q : Int)), .pu (.int 1), .pu (.int (b + s.takes + s.stays)), s8, s9]
      refine xs_forL (ed_of ?_)
      fail "kc"
      have hne : ∀ (x : Int) (g : Nat), b < x → 1 ≤ g → (g : Int) < s.tries → (lookT kv [x, (g : Int)]).getD (.int 0) = .int (numM s m x g) := fun x g hx hg hg2 => by
        by_cases c : x ≤ (m : Int)
        · rw [hkv.yes x g ⟨c, by omega, hg2, .inl hx⟩, Int.toNat_natCast]
          rfl
        · rw [hkv.no x g (by omega), hN.out x g (by omega)]
          rfl
      refine ⟨fun j δ' => ∃ x s8 s9, δ' = [.pu (svcD s), .pu (.int m), .pu (planD [s]), .ow (RDt K kv), .pu (.int b), .pu (.int (q : Int)), .pu (.int x), .pu (.int (b + s.takes + s.stays)), s8, s9] ∧ 1 ≤ x ∧ x ≤ numM s m b q ∧ (1 ≤ j → ((q + 1 : Nat) : Int) < s.tries → 1 + numM s m (b + waitF s.waits q) (q + 1) ≤ x) ∧ (4 ≤ j → 1 < s.tries → 1 + numM s m (b + s.takes + s.stays + s.waits) 1 ≤ x), ⟨1, _, _, rfl, Int.le_refl _, hN.one b q hb1 hbm hq, fun h => by omega, fun h => by omega⟩, fun j y δ' hy => ?_, fun δ' => ?_⟩
      · rintro ⟨x, s8, s9, rfl, hx1, hx2, hx3, hx4⟩
        have key : ∃ wh : Int, y = .int wh ∧ b ≤ wh ∧ (wh < b + s.takes + s.stays → j ≤ 2) ∧ (b + s.takes + s.stays ≤ wh → 3 ≤ j) ∧ (j = 0 → wh = b) ∧ (j = 3 → wh = b + s.takes + s.stays) := by
          match j, hy with
          | 0, hy => cases hy; exact ⟨b, rfl, by omega, by omega, by omega, by omega, by omega⟩
          | 1, hy => cases hy; exact ⟨b + 1, rfl, by omega, by omega, by omega, by omega, by omega⟩
          | 2, hy => cases hy; exact ⟨b + s.takes + s.stays - 1, rfl, by omega, by omega, by omega, by omega, by omega⟩
          | 3, hy => cases hy; exact ⟨b + s.takes + s.stays, rfl, by omega, by omega, by omega, by omega, by omega⟩
          | 4, hy => cases hy; exact ⟨b + s.takes + s.stays + 1, rfl, by omega, by omega, by omega, by omega, by omega⟩
          | _ + 5, hy => cases hy
        obtain ⟨wh, rfl, hwb, k1, k2, k3, k4⟩ := key
        refine turn1_name (Nat.le_of_ble_eq_true rfl) ?_
        refine xs_seq (xs_mid (fun δ' => ∃ g : Nat, δ' = [.pu (svcD s), .pu (.int m), .pu (planD [s]), .ow (RDt K kv), .pu (.int b), .pu (.int (q : Int)), .pu (.int x), .pu (.int (b + s.takes + s.stays)), .pu (.int wh), .pu (.int (g : Int))] ∧ 1 ≤ g ∧ ((b + s.takes + s.stays ≤ wh ∧ g = 1) ∨ (wh < b + s.takes + s.stays ∧ g = q + 1))) ?_ fun δ' hδ => ?_)
        · fail "kc"
          refine ifB (fun h => ?_) (fun h => ?_)
          · have h := of_decide_eq_true h
            fail "kc"
            exact ⟨Nat.le_refl _, .inl ⟨h, rfl⟩⟩
          · have h := of_decide_eq_false h
            fail "kc"
            exact ⟨Nat.le_add_left 1 q, .inr ⟨by omega, rfl⟩⟩
        obtain ⟨g, rfl, hg1, hg2⟩ := hδ
        have fin : ∀ x' : Int, x ≤ x' → x' ≤ numM s m b q → ((g : Int) < s.tries → 1 + numM s m (wh + waitF s.waits (g - 1)) g ≤ x') → ∃ x2 s8 s9, ([.pu (svcD s), .pu (.int m), .pu (planD [s]), .ow (RDt K kv), .pu (.int b), .pu (.int (q : Int)), .pu (.int x'), .pu (.int (b + s.takes + s.stays)), .pu (.int wh), .pu (.int (g : Int))] : List Dl.Slot) = [.pu (svcD s), .pu (.int m), .pu (planD [s]), .ow (RDt K kv), .pu (.int b), .pu (.int (q : Int)), .pu (.int x2), .pu (.int (b + s.takes + s.stays)), s8, s9] ∧ 1 ≤ x2 ∧ x2 ≤ numM s m b q ∧ (1 ≤ j + 1 → ((q + 1 : Nat) : Int) < s.tries → 1 + numM s m (b + waitF s.waits q) (q + 1) ≤ x2) ∧ (4 ≤ j + 1 → 1 < s.tries → 1 + numM s m (b + s.takes + s.stays + s.waits) 1 ≤ x2) := fun x' h1 h2 h3 => by
          refine ⟨x', _, _, rfl, by omega, h2, fun _ ht => ?_, fun h4 ht => ?_⟩
          · by_cases c : 1 ≤ j
            · have := hx3 c ht; omega
            · have e := k3 (by omega)
              rcases hg2 with ⟨z, _⟩ | ⟨_, z⟩
              · omega
              · have := h3 (by omega)
                rw [z, Nat.add_sub_cancel, e] at this
                exact this
          · by_cases c : 4 ≤ j
            · have := hx4 c ht; omega
            · have e := k4 (by omega)
              rcases hg2 with ⟨_, z⟩ | ⟨z, _⟩
              · have := h3 (by omega)
                rw [z, e] at this
                exact this
              · omega
        fail "kc"
        refine ifB (fun h => ?_) (fun h => ?_)
        · have h := of_decide_eq_true h
          fail "kc"
          refine ev_cb2I (g := fun i j => if j > i then j else i) ?_
          fail "kc"
          refine ev_call ?_
          fail "kc"
          refine ⟨rfl, ⟨[s], 0, g, rfl, ⟨s, rfl, hwt.1, hwt.2⟩, hg1, by omega⟩, fun r hr => ?_⟩
          cases hr [s] 0 g rfl
          fail "kc"
          have w1 := wait_pos hwt.1 (g - 1)
          have hv : (lookT kv [wh + waitF s.waits (g - 1), (g : Int)]).getD (.int 0) = .int (numM s m (wh + waitF s.waits (g - 1)) g) := hne _ g (by omega) hg1 h
          have hmax : 1 + numM s m (wh + waitF s.waits (g - 1)) g ≤ numM s m b q := by
            rcases hg2 with ⟨z, rfl⟩ | ⟨z, rfl⟩
            · have a1 := hN.rest b q hb1 hbm hq h
              have a2 := hN.mono2 hwt.1 (by omega) (by omega) (b := b + s.takes + s.stays + s.waits) (f := 1) (by omega) h (wh - (b + s.takes + s.stays)).toNat
              rw [show b + s.takes + s.stays + s.waits + (((wh - (b + s.takes + s.stays)).toNat : Nat) : Int) = wh + s.waits by omega] at a2
              show 1 + numM s m (wh + s.waits) 1 ≤ _
              omega
            · have a1 := hN.now b q hb1 hbm h
              have w2 := wait_pos hwt.1 q
              have a2 := hN.mono2 hwt.1 (by omega) (by omega) (b := b + waitF s.waits q) (f := q + 1) (by omega) h (wh - b).toNat
              rw [show b + waitF s.waits q + (((wh - b).toNat : Nat) : Int) = wh + waitF s.waits q by omega] at a2
              rw [Nat.add_sub_cancel]
              omega
          refine ⟨_, kv, rfl, dt_own, 1, numM s m (wh + waitF s.waits (g - 1)) g, rfl, congrArg Dl.Slot.pu hv, ?_⟩
          fail "kc"
          generalize 1 + numM s m (wh + waitF s.waits (g - 1)) g = v at hmax fin
          exact fin (if v > x then v else x) (by split <;> omega) (by split <;> omega) (fun _ => by split <;> omega)
        · have h := of_decide_eq_false h
          fail "kc"
          exact fin x (Int.le_refl _) hx2 (fun z => absurd z h)
      · rintro ⟨x, s8, s9, rfl, hx1, hx2, hx3, hx4⟩
        have hx3 := hx3 (by show 1 ≤ 5; decide)
        have hx4 := hx4 (by show 4 ≤ 5; decide)
        have hxe : x = numM s m b q := by
          rcases hN.some b q hb1 hbm hq with e | ⟨t, e⟩ | ⟨t, e⟩
          · omega
          · have := hx3 t; omega
          · have := hx4 t; omega
        subst hxe
        refine xs_tput (ed_of (ev_pu rfl ⟨_, frz_pu, kv, rfl, ev_tupK ?_⟩))
        fail "kc"
        refine ⟨by omega, storeT kv [b, (q : Int)] (.int (numM s m b q)), .pu (.int (q : Int)), .pu (.int (numM s m b q)), .pu (.int (b + s.takes + s.stays)), s8, s9, ?_, ?_, ⟨fun c g h => ?_, fun c g h => ?_⟩⟩
        · rfl
        · have := storeT_len kv [b, (q : Int)] (.int (numM s m b q)); omega
        · rw [lookT_store]
          by_cases e : [c, g] = [b, (q : Int)]
          · rw [if_pos e]
            simp only [List.cons.injEq, and_true] at e
            obtain ⟨rfl, rfl⟩ := e
            rw [Int.toNat_natCast]
          · rw [if_neg e]
            refine hkv.yes c g ⟨h.1, h.2.1, h.2.2.1, ?_⟩
            have : ¬ (c = b ∧ g = (q : Int)) := fun z => e (by rw [z.1, z.2])
            omega
        · rw [lookT_store, if_neg (fun e => by
            simp only [List.cons.injEq, and_true] at e
            omega)]
          exact hkv.no c g (by omega)
    · rintro ⟨kv, s5, s6, s7, s8, s9, rfl, hkl, hkv⟩
      fail "kc"
      refine ⟨kv, _, _, _, _, _, _, rfl, by omega, ⟨fun c g h => hkv.yes c g (by omega), fun c g h => hkv.no c g (by omega)⟩⟩
  · rintro ⟨kv, s4, s5, s6, s7, s8, s9, rfl, hkl, hkv⟩
    fail "kc"
    refine ⟨_, _, rfl, dt_own, ?_⟩
    have e : (lookT kv [1, 0]).getD (.int 0) = .int (mostF s m).1 := by
      rw [most_num ho]
      by_cases c : 1 ≤ (m : Int)
      · rw [hkv.yes 1 0 (by omega)]; rfl
      · rw [hkv.no 1 0 (by omega), hN.out 1 0 (by omega)]; rfl
    rw [e]
    exact rt_d fun s' m' e => by
      simp only [List.cons.injEq, PyData.int.injEq, and_true] at e
      obtain ⟨e1, e2⟩ := e
      cases svcD_inj e1
      have e3 : m = m' := by omega
      subst e3
      rfl
end
end Kr

namespace Kr
open PySem PySem.Spec PyProof.Rows L2 Dl
open Evl (Ex)
section
variable {P : Program} {w : World} {K : PySem.W.Frag} {mg : Str → Option Value} {base : Heap} {CK CS : Addr}
def pBg (ds : List PyData) : Prop := ∃ (s : Svc) (m i n : Nat) (xs : List Int), ds = [svcD s, .int (n : Int), .list (xs.map PyData.int)] ∧ GoodS m i s ∧ n ≤ 300 ∧ xs.length ≤ 1000
def tBg (ds : List PyData) (r : Rt) : Prop := ∀ (s : Svc) (n : Nat) (xs : List Int), ds = [svcD s, .int (n : Int), .list (xs.map PyData.int)] → r = .d (.int (nB (simK (aloneP s) (fun m => m ∈ xs) n).rows : Int))
theorem ok__law_begins (D : Df K mg "_law_begins" s__law_begins ["_law_service", "_law_beats", "_law_falls"]) (B : Bn mg) (T : KTxt K CK CS) (k_Keeper : Mak P w K mg base 5 "Keeper" CK (spM K (fun i : KpN => i.1) (RKN K CK CS) 1 pKpN tKpN)) (m_Keeper_ask : Dl.Met P w K mg base 3 CK "ask" (spM K KJ.me (RKx K CK CS) 1 pOne tAsk)) (m_Keeper_fall : Dl.Met P w K mg base 3 CK "fall" (spM K KJ.me (RKx K CK CS) 1 pFallK tFallK)) (m_Keeper_beat : Dl.Met P w K mg base 4 CK "beat" (spM K KJ.me (RKx K CK CS) 0 pBeat tBeat)) (m_Keeper_log : Dl.Met P w K mg base 1 CK "log" (spM K KJ.me (RKx K CK CS) 0 pNone (tLog (K := K)))) : Cal P w K mg base 7 "_law_begins" (spP K 3 pBg tBg) := by
  have nd := sc__law_begins.nd
  refine calP D sc__law_begins rfl fun f cdv A outer st H E hr => ⟨_, (pss_cons (ps_set (i := 3) nd rfl (Or.inl rfl) (Dl.pe_mk k_Keeper hr (pa_cons (pe_tup (pa_cons (pe_op (Kk.op_catA (K := K)) (pe_tup (pa_cons (pe_tup pa_nil) pa_nil)) (pe_slice (Kk.sl_tupA (K := K)) (pv 0) (po_some pe_int) po_none)) pa_nil)) pa_nil)))
      (pss_cons (ps_expr (Dl.pe_m m_Keeper_ask hr (pv 3) (pa_cons pe_int pa_nil)))
      (pss_cons (ps_for PassesOwn.never rfl (pi_range2 (by rfl) B.range (pa_cons pe_int (pa_cons (pe_op op_add (pv 1) pe_int) pa_nil))) (pg_name (i := 4) nd rfl (Or.inl rfl)) (pss_cons (ps_expr (Dl.pe_m0 m_Keeper_beat hr (pv 3)))
      (pss_one (ps_if (pt_cmpR (Kk.op_in_seq (K := K)) (pv 4) (pv 2) (by rfl)) (pss_one (ps_expr (Dl.pe_m m_Keeper_fall hr (pv 3) (pa_cons pe_int pa_nil)))) pss_nil))))
      (pss_one (ps_ret (pe_callB (Kk.call_len_seq (K := K)) (by rfl) B.len (by decide +kernel) (pa_cons (pe_lc (own := [("_law_row", 5)]) rfl nd (Kk.pi_list (K := K) (Dl.pe_m0 m_Keeper_log hr (pv 3))) (blkOk_by (by kernel_rfl)) (fun _ _ _ _ _ => (pg_name (i := 5) nd rfl (by first | exact Or.inl rfl | exact Or.inr rfl))) (fun _ _ _ _ _ => (pts_one (pt_cmpR op_eq (pe_ix (Kk.ix_tup (K := K)) (pv 5) pe_int (fun _ _ => rfl)) pe_str (nomark _)))) (fun _ _ _ _ _ => (pv 5))) pa_nil))))))), fun ds hn hp => ?_⟩
  obtain ⟨s, m0, i0, m, xs, rfl, g, hm, hx⟩ := hp
  have hga := alone_good g
  have hl1 : (aloneP s).length = 1 := rfl
  show ExS K _ _ [.pu (svcD s), .pu (.int m), .pu (.list (xs.map PyData.int)), .non, .non, .non]
  fail "kl"
  refine ev_make ?_
  fail "kl"
  refine ⟨Nat.le_of_ble_eq_true rfl, _, frz_pu, ?_⟩
  fail "kl"
  refine ⟨rfl, fun x => ⟨(x, none), rfl, fun B H dx hx => ⟨rfl, fun y hy => by rw [List.mem_singleton.mp hy]; exact ⟨dx, [], hx, .nil⟩, by simp, fun c => by simp⟩, ⟨rfl, aloneP s, rfl, hga⟩, fun i' s' ea hT => ?_⟩⟩
  obtain ⟨rfl, hT⟩ := hT
  obtain ⟨xa, hxl, rfl⟩ := hT (aloneP s) rfl
  refine ⟨rfl, Nat.le_of_ble_eq_true rfl, _, rfl, ?_⟩
  have wf0 : KWf ⟨x, xa, aloneP s, st0 (aloneP s)⟩ := ⟨hga, KOk.begin hga.sound, hxl⟩
  show ExS K _ _ [.pu (svcD s), .pu (.int m), .pu (.list (xs.map PyData.int)), .ow (RKx K CK CS ⟨x, xa, aloneP s, st0 (aloneP s)⟩), .non, .non]
  fail "kl"
  refine ev_methW (rkx_ins lk_ask) ⟨_, rfl, ?_⟩
  fail "kl"
  refine ⟨rfl, ⟨wf0, 0, rfl, Nat.zero_lt_one⟩, fun j' s' _ hT => ?_⟩
  obtain ⟨rfl, hT⟩ := hT
  cases hT 0 rfl
  fail "kl"
  refine xs_forR2 ?_
  fail "kl"
  refine ⟨⟨by omega, by omega, by omega, by omega⟩, fun n δ' => ∃ s4, δ' = [.pu (svcD s), .pu (.int m), .pu (.list (xs.map PyData.int)), .ow (RKx K CK CS ⟨x, xa, aloneP s, simK (aloneP s) (fun m => m ∈ xs) n⟩), s4, .non], ⟨_, rfl⟩, fun n δ' hn => ?_, fun δ' => ?_⟩
  · rintro ⟨s4, rfl⟩
    have hn : n < m := by omega
    have wfn : KWf ⟨x, xa, aloneP s, simK (aloneP s) (fun m => m ∈ xs) n⟩ := ⟨hga, sim_ok g _ n, hxl⟩
    have hr1 := sim_rows (s := s) (fun m => m ∈ xs) n
    have hr2 := rows_beat (p := aloneP s) (st := simK (aloneP s) (fun m => m ∈ xs) n)
    refine turn1_name (Nat.le_of_ble_eq_true rfl) ?_
    fail "kl"
    refine ev_methW (rkx_ins lk_beat) ⟨_, rfl, ?_⟩
    fail "kl"
    refine ⟨rfl, ⟨wfn, rfl, by show (simK (aloneP s) (fun m => m ∈ xs) n).rows.length < _; omega⟩, fun j' s' _ hT => ?_⟩
    obtain ⟨rfl, rfl⟩ := hT
    have wfb : KWf ⟨x, xa, aloneP s, beatK (aloneP s) (simK (aloneP s) (fun m => m ∈ xs) n)⟩ := ⟨hga, (sim_ok g _ n).beat hga.sound, hxl⟩
    fail "kl"
    rw [if_neg Bool.false_ne_true]
    refine ifB (fun h => ?_) (fun h => ?_)
    · have h := of_decide_eq_true h
      have h2 : (n : Int) + 1 ∈ xs := by rw [Int.add_comm]; exact h
      fail "kl"
      refine ev_methW (rkx_ins lk_kfall) ⟨_, rfl, ?_⟩
      fail "kl"
      refine ⟨rfl, ⟨wfb, by show (beatK (aloneP s) (simK (aloneP s) (fun m => m ∈ xs) n)).rows.length < _; omega, 0, rfl, Nat.zero_lt_one⟩, fun j' s' _ hT => ?_⟩
      obtain ⟨rfl, rfl⟩ := hT 0 rfl
      fail "kl"
      have e1 : simK (aloneP s) (fun m => m ∈ xs) (n + 1) = fallK (aloneP s) (beatK (aloneP s) (simK (aloneP s) (fun m => m ∈ xs) n)) 0 := if_pos h2
      rw [e1]
      exact ⟨_, rfl⟩
    · have h := of_decide_eq_false h
      have h2 : ¬ (n : Int) + 1 ∈ xs := fun z => h (by rw [Int.add_comm]; exact z)
      fail "kl"
      have e1 : simK (aloneP s) (fun m => m ∈ xs) (n + 1) = beatK (aloneP s) (simK (aloneP s) (fun m => m ∈ xs) n) := if_neg h2
      rw [e1]
      exact ⟨_, rfl⟩
  · rintro ⟨s4, rfl⟩
    have wfn : KWf ⟨x, xa, aloneP s, simK (aloneP s) (fun m => m ∈ xs) m⟩ := ⟨hga, sim_ok g _ m, hxl⟩
    rw [show ((m : Int) + 1 - 1).toNat = m by omega]
    have hr1 := sim_rows (s := s) (fun m => m ∈ xs) m
    fail "kl"
    refine ev_fL (g := logD) isBeg (fun r => logD r) ?_
    refine ev_methW (rkx_ins lk_log) ⟨_, rfl, ?_⟩
    fail "kl"
    refine ⟨rfl, ⟨wfn, rfl⟩, fun j' s' _ hT => ?_⟩
    obtain ⟨rfl, rfl⟩ := hT
    refine ⟨(simK (aloneP s) (fun m => m ∈ xs) m).rows, den_ow, wip1 rfl junk_non, Nat.le_of_ble_eq_true rfl, by omega, fun r hr => ?_, ?_⟩
    · unfold Turn1C
      simp only [List.set_cons_zero, List.set_cons_succ]
      fail "kl"
      refine ⟨rfl, ?_, fun _ => ed_of (ev_pu rfl ⟨_, frz_pu, rfl, rfl⟩)⟩
      unfold isBeg
      by_cases c : r.word = .begins
      · rw [decide_eq_true c, decide_eq_true (show r.word.s = Str.ofString "begins" by rw [c]; rfl)]
      · rw [decide_eq_false c]
        exact decide_eq_false (fun z => c (Lw.s_inj.mp z))
    · refine ⟨_, .inl den_ow, ?_⟩
      rw [List.length_map]
      exact rt_d fun s' m' xs' e => by
        simp only [List.cons.injEq, PyData.int.injEq, PyData.list.injEq, and_true] at e
        obtain ⟨e1, e2, e3⟩ := e
        cases svcD_inj e1
        have e4 : m = m' := by omega
        subst e4
        cases (List.map_inj_right (fun x y h => PyData.int.inj h)).mp e3
        rfl
end
end Kr

namespace Kr
open PySem PySem.Spec PyProof.Rows L2 Dl
open Evl (Ex)
theorem eqv_ints {l : List Int} : PyData.eqv (.list (l.map PyData.int)) (.list (l.map PyData.int)) = true := SeqAt.eqv_refl _ (SeqAt.canLay_of_shaped (shaped_ints l))
theorem rmo_shows {K : PySem.W.Frag} {e : Mr} {t l : Addr} : Shows K (RMo K e t l) l (e.2.map PyData.int) := shows_d (List.mem_cons_of_mem _ (List.mem_cons_self ..))
theorem rmo_lst {K : PySem.W.Frag} {e : Mr} {t l : Addr} : LstAt (RMo K e t l) l := fun v B H M h => by
  obtain ⟨⟨us, h1, _⟩, _⟩ := RH.get h (a := l) (c := .lst ((e.2.map PyData.int).map .d)) (List.mem_cons_of_mem _ (List.mem_cons_self ..))
  exact ⟨us, h1⟩
end Kr
local macro_rules | `(tactic| fail "k81") => `(tactic| first
  | ((with_reducible show Dl.EvS _ (L2.tCB (L2.rIsi _) (L2.tCons (L2.tVar 7) _)) _ _); refine Dl.ev_isiTu rfl Dl.rh_tw ?_)
  | ((with_reducible show Dl.EvS _ (L2.tCB (L2.rIsi _) (L2.tCons (L2.tOp _ (L2.tVar 7) _) _)) _ _); refine Dl.ev_isiJ (Dl.ev_ixTu rfl Dl.rh_tw ⟨_, 7, _, rfl, rfl, Kr.rmo_lst, ?_⟩))
  | ((with_reducible show Dl.EvS _ (L2.tCB _ (L2.tCons (L2.tVar 7) L2.tNil)) _ _); refine Dl.ev_lenTu rfl Dl.rh_tw ?_)
  | fail "kl1")
local macro_rules | `(tactic| fail "k8") => `(tactic| repeat fail "k81")
namespace Kr
open PySem PySem.Spec PyProof.Rows L2 Dl
open Evl (Ex)
section
variable {P : Program} {w : World} {K : PySem.W.Frag} {mg : Str → Option Value} {base : Heap} {CK CS : Addr}
set_option maxHeartbeats 0 in
theorem ok_law {f : Addr} {fd : FuncData} (F : Fun K "law" "law" s_law f fd) (B : Bn mg) (c__law_dice : Cal P w K mg base 1 "_law_dice" (spP K 2 pDice tDice)) (c__law_off : Cal P w K mg base 1 "_law_off" (spDi K 1 pOff tOff)) (c__law_plan : Cal P w K mg base 3 "_law_plan" (spDi K 1 pPlan tPlan)) (c__law_alike : Cal P w K mg base 1 "_law_alike" (spP K 2 (pAlike 1) tTrue2)) (c__law_table : Cal P w K mg base 2 "_law_table" (spP K 2 pTab tTab)) (c__law_begins : Cal P w K mg base 7 "_law_begins" (spP K 3 pBg tBg)) (c_most_begins : Cal P w K mg base 5 "most_begins" (spN K 3 pMB (tMB K))) : FnOk P w K mg base CX0 8 f fd ["_law_script"] (spP K 1 pLaw tLaw) := by
  have nd := sc_law.nd
  refine fnP F sc_law rfl fun cdv A outer st H E hr => ⟨_, (pss_cons (ps_set (i := 1) nd rfl (Or.inr rfl) (Dl.pe_c c__law_dice hr (pa_cons (pv 0) (pa_cons pe_int pa_nil))))
      (pss_cons (ps_for PassesOwn.never rfl (pi_range1 (by rfl) B.range (pa_cons pe_int pa_nil)) (pg_name (i := 2) nd rfl (Or.inl rfl)) (pss_cons (ps_set (i := 3) nd rfl (Or.inl rfl) (Dl.pe_c c__law_plan hr (pa_cons (pv 1) (pa_cons pe_int pa_nil))))
      (pss_cons (ps_set (i := 4) nd rfl (Or.inl rfl) (Dl.pe_c c__law_off hr (pa_cons (pv 1) (pa_cons (pe_callB (Kk.call_len_seq (K := K)) (by rfl) B.len (by decide +kernel) (pa_cons (pv 3) pa_nil)) pa_nil))))
      (pss_cons (ps_set (i := 5) nd rfl (Or.inl rfl) (pe_ix (Kk.ix_list (K := K)) (pe_lst (pa_cons (Dl.pe_c c__law_off hr (pa_cons (pv 1) (pa_cons pe_int pa_nil))) (pa_cons pe_int (pa_cons (Dl.pe_c c__law_off hr (pa_cons (pv 1) (pa_cons pe_int pa_nil))) pa_nil)))) (Dl.pe_c c__law_off hr (pa_cons (pv 1) (pa_cons pe_int pa_nil))) (fun _ _ => rfl)))
      (pss_cons (ps_for PassesOwn.never rfl (pi_range1 (by rfl) B.range (pa_cons pe_int pa_nil)) (pg_name (i := 6) nd rfl (Or.inl rfl)) (pss_cons (ps_set (i := 7) nd rfl (Or.inl rfl) (Dl.pe_c c_most_begins hr (pa_cons (pv 3) (pa_cons (pv 4) (pa_cons (pv 5) pa_nil)))))
      (pss_cons (ps_if (PW.pt (pw_or (pt_not (pt_val (pe_callB (Kk.call_isi (K := K)) (by rfl) B.isinstance (by decide +kernel) (pa_cons (pv 7) (pa_cons (pe_bltn (v := .ty "tuple") (u := .type "tuple") (by rfl) B.tuple (by decide +kernel) rfl) pa_nil))))) (pw_or (pt_cmpR op_ne (pe_callB (Kk.call_len_seq (K := K)) (by rfl) B.len (by decide +kernel) (pa_cons (pv 7) pa_nil)) pe_int (nomark _)) (pw_or1 (pt_not (pt_val (pe_callB (Kk.call_isi (K := K)) (by rfl) B.isinstance (by decide +kernel) (pa_cons (pe_ix (Kk.ix_tup (K := K)) (pv 7) pe_int (fun _ _ => rfl)) (pa_cons (pe_bltn (v := .ty "list") (u := .type "list") (by rfl) B.list (by decide +kernel) rfl) pa_nil))))))))) (pss_one (ps_ret pe_bl)) pss_nil)
      (pss_cons (ps_asg (pv 7) (Kk.pg_tup (K := K) (n := 2) (by rfl) (pgs_cons (pg_name (i := 8) nd rfl (Or.inl rfl)) (pgs_cons (pg_name (i := 9) nd rfl (Or.inl rfl)) pgs_nil))))
      (pss_cons (ps_if (PW.pt (pw_or (pt_not (pt_val (Dl.pe_c c__law_alike hr (pa_cons (pv 8) (pa_cons (Dl.pe_c c__law_table hr (pa_cons (pe_ix (Kk.ix_tup (K := K)) (pv 3) (pv 4) (fun _ _ => rfl)) (pa_cons (pv 5) pa_nil))) pa_nil))))) (pw_or1 (pt_cmpR (Kk.op_neD (K := K) hr.units) (pv 9) (pe_callB (Rk.cr_sortedSetL (w := w) rfl) (by rfl) B.sorted (by decide +kernel) (pa_cons (pe_callTy (Kk.cr_setI (K := K) (w := w) rfl) (by rfl) B.set_ (by decide +kernel) (pa_cons (pv 9) pa_nil)) pa_nil)) (nomark _))))) (pss_one (ps_ret pe_bl)) pss_nil)
      (pss_cons (ps_if (pt_cmpR op_ne (Dl.pe_c c__law_begins hr (pa_cons (pe_ix (Kk.ix_tup (K := K)) (pv 3) (pv 4) (fun _ _ => rfl)) (pa_cons (pv 5) (pa_cons (pe_callTy (Kk.call_list_of (K := K)) (by rfl) B.list (by decide +kernel) (pa_cons (pv 9) pa_nil)) pa_nil)))) (pv 8) (nomark _)) (pss_one (ps_ret pe_bl)) pss_nil)
      (pss_one (ps_expr (Kk.pe_bm (K := K) PySem.F.plainAttrs_list PySem.F.slot_list_append PySem.F.type_list_append mt_append (pv 9) (pa_cons pe_int pa_nil))))))))))
      (pss_cons (ps_set (i := 10) nd rfl (Or.inr rfl) (pe_op op_add pe_int (Dl.pe_c c__law_off hr (pa_cons (pv 1) (pa_cons pe_int pa_nil)))))
      (pss_cons (ps_setLc (own := [("_law_beat", 12)]) (i := 11) rfl nd rfl rfl (sw_true rfl rfl rfl (by decide +kernel)) (pi_range1 (by rfl) B.range (pa_cons (pe_op op_add (pv 5) pe_int) pa_nil)) (blkOk_by (by kernel_rfl)) (fun _ _ _ _ _ => (pg_name (i := 12) nd rfl (by first | exact Or.inl rfl | exact Or.inr rfl))) (fun _ _ _ _ _ => (pts_one (pt_cmpR op_eq (Dl.pe_c c__law_off hr (pa_cons (pv 1) (pa_cons (pv 10) pa_nil))) pe_int (nomark _)))) (fun _ _ _ _ _ => (pv 12)))
      (pss_one (ps_if (pt_cmpR op_gt (Dl.pe_c c__law_begins hr (pa_cons (pe_ix (Kk.ix_tup (K := K)) (pv 3) (pv 4) (fun _ _ => rfl)) (pa_cons (pv 5) (pa_cons (pv 11) pa_nil)))) (pv 8) (nomark _)) (pss_one (ps_ret pe_bl)) pss_nil)))))))))
      (pss_one (ps_ret pe_bl)))), fun ds hn hp => ?_⟩
  obtain ⟨ns, rfl, hl⟩ := hp
  generalize hsc : PyData.list (ns.map PyData.int) = sc
  show ExS K _ _ [.pu sc, .non, .non, .non, .non, .non, .non, .non, .non, .non, .non, .non, .non]
  fail "kl"
  refine ev_call ?_
  fail "kl"
  refine ⟨rfl, ⟨ns, 0, by rw [hsc], by omega, by decide⟩, fun r hr => ?_⟩
  obtain ⟨xs, rfl, ok⟩ := hr
  fail "kl"
  refine xs_dice (j := 1) rfl ok fun a => ?_
  fail "kl"
  refine xs_forR1 ?_
  fail "kl"
  refine ⟨by decide, by decide, fun _ δ' => ∃ s2 s3 s4 s5 s6 s7 s8 s9 s10 s11, δ' = [.pu sc, .ow (RDi a), s2, s3, s4, s5, s6, s7, s8, s9, s10, s11, .non], ⟨_, _, _, _, _, _, _, _, _, _, rfl⟩, fun i δ' hi => ?_, fun δ' => ?_⟩
  · rintro ⟨s2, s3, s4, s5, s6, s7, s8, s9, s10, s11, rfl⟩
    refine turn1_name (Nat.le_of_ble_eq_true rfl) ?_
    fail "kl"
    refine ev_callD rfl ?_
    fail "kl"
    refine ⟨rfl, rfl, ⟨6, rfl, by decide, by decide⟩, fun r hr => ?_⟩
    obtain ⟨p, rfl, hg, hpl⟩ := hr 6 rfl
    have h12 := hg.sound.few
    have h1 := hg.sound.one
    refine ⟨Nat.le_of_ble_eq_true rfl, _, rfl, ?_⟩
    show ExS K _ _ [.pu sc, .ow (RDi a), .pu (.int i), .pu (planD p), s4, s5, s6, s7, s8, s9, s10, s11, .non]
    fail "kl"
    refine ⟨rfl, _, rfl, by rw [planD_len]; omega, by rw [planD_len]; omega, fun nu hnu => ⟨Nat.le_of_ble_eq_true rfl, _, rfl, ?_⟩⟩
    rw [planD_len] at hnu
    have hnu : nu < p.length := by omega
    show ExS K (tSeq _ _) _ [.pu sc, .ow (RDi a), .pu (.int i), .pu (planD p), .pu (.int nu), s5, s6, s7, s8, s9, s10, s11, .non]
    refine xs_seq (xs_mid (fun δ' => ∃ m : Nat, m ≤ 300 ∧ δ' = [.pu sc, .ow (RDi a), .pu (.int i), .pu (planD p), .pu (.int nu), .pu (.int m), s6, s7, s8, s9, s10, s11, .non]) ?_ fun δ' hδ => ?_)
    · fail "kl"
      intro x1 hx1
      fail "kl"
      intro x2 hx2
      fail "kl"
      intro x3 hx3
      fail "kl"
      have key : ∃ m : Nat, m ≤ 300 ∧ atI [PyData.int (x1 : Int), .int 300, .int (x2 : Int)] (x3 : Int) = some (.int (m : Int)) := by
        have h3 : x3 = 0 ∨ x3 = 1 ∨ x3 = 2 := by omega
        rcases h3 with rfl | rfl | rfl
        · exact ⟨x1, by omega, rfl⟩
        · exact ⟨300, Nat.le_refl _, rfl⟩
        · exact ⟨x2, by omega, rfl⟩
      obtain ⟨m, hm, hat⟩ := key
      refine ⟨_, _, _, den_ow, rfl, hat, Nat.le_of_ble_eq_true rfl, _, rfl, ?_⟩
      exact ⟨m, hm, rfl⟩
    obtain ⟨m, hm, rfl⟩ := hδ
    obtain ⟨s, hs, hat⟩ := atI_plan hnu
    have hgs := hg.sound.svc nu s hs
    have hso := SvOk.of hg hs
    fail "kl"
    refine xs_mid (fun δ' => ∃ s6 s7 s9, δ' = [.pu sc, .ow (RDi a), .pu (.int i), .pu (planD p), .pu (.int nu), .pu (.int m), s6, s7, .pu (.int (mostF s m).1), s9, s10, s11, .non]) ?_ fun δ' hδ => ?_
    · refine xs_forR1 ?_
      fail "kl"
      refine ⟨by decide, by decide, fun k δ' => ∃ s6 s7 s8 s9, δ' = [.pu sc, .ow (RDi a), .pu (.int i), .pu (planD p), .pu (.int nu), .pu (.int m), s6, s7, s8, s9, s10, s11, .non] ∧ (1 ≤ k → s8 = .pu (.int (mostF s m).1)), ⟨_, _, _, _, rfl, fun h => absurd h (by decide)⟩, fun k δ' hk => ?_, fun δ' => ?_⟩
      · rintro ⟨s6, s7, s8, s9, rfl, _⟩
        refine turn1_name (Nat.le_of_ble_eq_true rfl) ?_
        refine xs_seq (xs_asg (ev_callN ?_))
        fail "kl"
        refine ⟨rfl, ⟨p, nu, m, rfl, hg, hnu, hm⟩, fun z hz => ?_⟩
        obtain ⟨tA, lA, rfl⟩ := hz p nu m rfl
        rw [svcAt_some hs]
        refine ⟨Nat.le_of_ble_eq_true rfl, _, rfl, ?_⟩
        show ExS K (tSeq _ _) _ [.pu sc, .ow (RDi a), .pu (.int i), .pu (planD p), .pu (.int nu), .pu (.int m), .pu (.int k), .ow (RMo K (mostF s m) tA lA), s8, s9, s10, s11, .non]
        fail "k8"
        refine xs_unTu rfl rh_tw (Nat.le_of_ble_eq_true rfl) (Nat.le_of_ble_eq_true rfl) ?_
        show ExS K (tSeq _ _) _ [.pu sc, .ow (RDi a), .pu (.int i), .pu (planD p), .pu (.int nu), .pu (.int m), .pu (.int k), .ow (RMo K (mostF s m) tA lA), .pu (.int (mostF s m).1), .ow (RRef lA), s10, s11, .non]
        refine xs_seq (xs_mid (fun δ' => δ' = [.pu sc, .ow (RDi a), .pu (.int i), .pu (planD p), .pu (.int nu), .pu (.int m), .pu (.int k), .ow (RMo K (mostF s m) tA lA), .pu (.int (mostF s m).1), .ow (RRef lA), s10, s11, .non]) ?_ fun δ' hδ => ?_)
        · fail "kl"
          refine ev_call ?_
          fail "kl"
          refine ev_call ?_
          fail "kl"
          refine ⟨_, _, _, rfl, rfl, hat, _, frz_pu, ?_⟩
          fail "kl"
          refine ⟨rfl, ⟨s, m, rfl, hso, hm⟩, fun r hr => ?_⟩
          cases hr s m rfl
          refine ⟨_, frz_pu, ?_⟩
          fail "kl"
          refine ⟨rfl, ⟨_, rfl, rfl⟩, fun r hr => ?_⟩
          cases (show r = .d (.bool true) from hr)
          fail "kl"
          refine ev_sortedSetL (ev_alR rfl ⟨(mostF s m).2, .inl (den_ref (i := 7) rfl rmo_shows), by have := most_len hgs m; omega, fun ns' z1 z2 => ?_⟩)
          cases rise_eq z1 (most_row_rise hgs m) z2
          refine ⟨_, _, den_ref (i := 7) rfl rmo_shows, den_ow, shaped_ints _, shaped_ints _, ?_⟩
          rw [eqv_ints]
          fail "kl"
          rfl
        subst hδ
        fail "kl"
        refine ev_call ?_
        fail "kl"
        refine ⟨_, _, _, rfl, rfl, hat, _, frz_pu, ?_⟩
        fail "kl"
        refine ⟨_, .inl (den_ref (i := 7) rfl rmo_shows), _, frz_ow, eds_nil ⟨rfl, ⟨s, _, _, m, (mostF s m).2, rfl, hgs, hm, by have := most_len hgs m; omega⟩, fun r hr => ?_⟩⟩
        cases hr s m (mostF s m).2 rfl
        rw [sim_most hgs (fun _ _ => Iff.rfl)]
        fail "kl"
        rw [decide_eq_true rfl]
        fail "kl"
        refine ev_appR (ev_alR rfl ⟨lA, 7, _, _, rfl, rfl, rmo_shows, ed_of ?_⟩)
        fail "kl"
        refine ⟨7, _, _, rfl, app_d (cs' := fun c => [(tA, .tup [.d (.int (mostF s m).1), .r lA]), (lA, c)]) ⟨[(tA, .tup [.d (.int (mostF s m).1), .r lA])], [], rfl, fun _ => rfl⟩ (by rw [List.length_map, List.length_map]; have := most_len hgs m; omega), ?_⟩
        exact ⟨_, _, _, _, rfl, fun _ => rfl⟩
      · rintro ⟨s6, s7, s8, s9, rfl, h8⟩
        rw [h8 (by decide)]
        exact ⟨_, _, _, rfl⟩
    obtain ⟨s6, s7, s9, rfl⟩ := hδ
    fail "kl"
    intro x hx
    refine ⟨_, _, rfl, rfl, Nat.le_of_ble_eq_true rfl, _, rfl, ?_⟩
    show ExS K _ _ [.pu sc, .ow (RDi a), .pu (.int i), .pu (planD p), .pu (.int nu), .pu (.int m), s6, s7, .pu (.int (mostF s m).1), s9, .pu (.int (1 + (x : Int))), s11, .non]
    refine xs_seq (xs_mid (fun δ' => ∃ xs : List Int, δ' = [.pu sc, .ow (RDi a), .pu (.int i), .pu (planD p), .pu (.int nu), .pu (.int m), s6, s7, .pu (.int (mostF s m).1), s9, .pu (.int (1 + (x : Int))), .ow (RL K (xs.map PyData.int)), .non] ∧ xs.length ≤ 301) ?_ fun δ' hδ => ?_)
    · fail "kl"
      refine ev_lcR1 ?_
      fail "kl"
      refine ⟨by omega, by omega, wip1 rfl junk_non, fun k acc => ∃ l : List Int, acc = l.map PyData.int ∧ l.length ≤ k, ⟨[], rfl, Nat.le_refl _⟩, ?_, ?_⟩
      · rintro k _ hk ⟨l, rfl, hl⟩
        refine turnC1 (Nat.le_of_ble_eq_true rfl) ?_
        simp only [List.set_cons_zero, List.set_cons_succ]
        fail "kl"
        refine ⟨rfl, _, rfl, by omega, by omega, fun x hx => ?_⟩
        fail "kl"
        refine ⟨rfl, ifB (fun h => ?_) (fun h => ?_)⟩
        · fail "kl"
          exact ⟨rfl, by rw [List.length_map]; omega, l ++ [(k : Int)], by rw [List.map_append]; rfl, by rw [List.length_append]; exact Nat.succ_le_succ hl⟩
        · exact ⟨l, rfl, by omega⟩
      · rintro _ ⟨l, rfl, hl⟩
        fail "kl"
        omega
    obtain ⟨xs, rfl, hxs⟩ := hδ
    fail "kl"
    refine ev_callF ?_
    fail "kl"
    refine ⟨_, _, _, rfl, rfl, hat, ?_⟩
    refine ea_cons (ev_pu rfl (ea_cons (ev_al rfl (ea_nil ⟨[svcD s, .int (m : Int), .list (xs.map PyData.int)], .cons den_pu (.cons den_pu (.cons (den_al rfl) .nil)), rfl, ⟨s, _, _, m, xs, rfl, hgs, hm, by omega⟩, fun r hr => ?_⟩))))
    cases hr s m xs rfl
    refine ⟨rfl, ?_⟩
    have hle := sim_le hgs (B := m) (fun z => z ∈ xs)
    fail "kl"
    rw [decide_eq_false (fun z => by omega)]
    fail "kl"
    exact ⟨_, _, _, _, _, _, _, _, _, _, rfl⟩
  · rintro ⟨s2, s3, s4, s5, s6, s7, s8, s9, s10, s11, rfl⟩
    fail "kl"
    exact rt_d rfl
end
end Kr

namespace Kr
open PySem PySem.Spec PyProof.Rows L2 Dl
open Evl (Ex)
theorem all_mk {l : PySem.W.OpenLaw} {w : World} {K : PySem.W.Frag} {h : Heap} {mg : Str → Option Value} {fa f0 f1 f2 f3 f4 f5 f6 f7 f8 f9 f10 f11 f12 f13 f14 f15 f16 f17 f18 f19 f20 f21 f22 f23 CK fKeeper___init__ fKeeper_tell fKeeper_ask fKeeper_due fKeeper_fall fKeeper_lacks fKeeper_is_free fKeeper_chosen fKeeper_beat fKeeper_log CS fService___init__ fService_put fService_count fService_fall bBOUNDS bBOUNDS_0 bBOUNDS_1 bBOUNDS_2 bBOUNDS_3 bBOUNDS_4 bRUNNING : Addr} (X : K.In h) (G : h.Ns mainGlobals mg) (hfa : mg "law" = some (.ref fa))
    {od0 an0 od1 an1 od2 an2 od3 an3 od4 an4 od5 an5 od6 an6 od7 an7 od8 an8 od9 an9 od10 an10 od11 an11 od12 an12 od13 an13 od14 an14 od15 an15 od16 an16 od17 an17 od18 an18 od19 an19 od20 an20 od21 an21 od22 an22 od23 an23 odKeeper___init__ anKeeper___init__ odKeeper_tell anKeeper_tell odKeeper_ask anKeeper_ask odKeeper_due anKeeper_due odKeeper_fall anKeeper_fall odKeeper_lacks anKeeper_lacks odKeeper_is_free anKeeper_is_free odKeeper_chosen anKeeper_chosen odKeeper_beat anKeeper_beat odKeeper_log anKeeper_log odService___init__ anService___init__ odService_put anService_put odService_count anService_count odService_fall anService_fall oBOUNDS oBOUNDS_0 oBOUNDS_1 oBOUNDS_2 oBOUNDS_3 oBOUNDS_4 oRUNNING : Option Addr} {sl0 sl1 sl2 sl3 sl4 sl5 sl6 sl7 sl8 sl9 sl10 sl11 sl12 sl13 sl14 sl15 sl16 sl17 sl18 sl19 sl20 sl21 sl22 sl23 slKeeper___init__ slKeeper_tell slKeeper_ask slKeeper_due slKeeper_fall slKeeper_lacks slKeeper_is_free slKeeper_chosen slKeeper_beat slKeeper_log slService___init__ slService_put slService_count slService_fall sBOUNDS sBOUNDS_0 sBOUNDS_1 sBOUNDS_2 sBOUNDS_3 sBOUNDS_4 sRUNNING : Array (Option Value)} {oc0 kV0 dc0 pm0 cd0 ct0 oc1 kV1 dc1 pm1 cd1 ct1 oc2 kV2 dc2 pm2 cd2 ct2 oc3 kV3 dc3 pm3 cd3 ct3 oc4 kV4 dc4 pm4 cd4 ct4 oc5 kV5 dc5 pm5 cd5 ct5 oc6 kV6 dc6 pm6 cd6 ct6 oc7 kV7 dc7 pm7 cd7 ct7 oc8 kV8 dc8 pm8 cd8 ct8 oc9 kV9 dc9 pm9 cd9 ct9 oc10 kV10 dc10 pm10 cd10 ct10 oc11 kV11 dc11 pm11 cd11 ct11 oc12 kV12 dc12 pm12 cd12 ct12 oc13 kV13 dc13 pm13 cd13 ct13 oc14 kV14 dc14 pm14 cd14 ct14 oc15 kV15 dc15 pm15 cd15 ct15 oc16 kV16 dc16 pm16 cd16 ct16 oc17 kV17 dc17 pm17 cd17 ct17 oc18 kV18 dc18 pm18 cd18 ct18 oc19 kV19 dc19 pm19 cd19 ct19 oc20 kV20 dc20 pm20 cd20 ct20 oc21 kV21 dc21 pm21 cd21 ct21 oc22 kV22 dc22 pm22 cd22 ct22 oc23 kV23 dc23 pm23 cd23 ct23 ocKeeper___init__ kVKeeper___init__ dcKeeper___init__ pmKeeper___init__ cdKeeper___init__ ctKeeper___init__ ocKeeper_tell kVKeeper_tell dcKeeper_tell pmKeeper_tell cdKeeper_tell ctKeeper_tell ocKeeper_ask kVKeeper_ask dcKeeper_ask pmKeeper_ask cdKeeper_ask ctKeeper_ask ocKeeper_due kVKeeper_due dcKeeper_due pmKeeper_due cdKeeper_due ctKeeper_due ocKeeper_fall kVKeeper_fall dcKeeper_fall pmKeeper_fall cdKeeper_fall ctKeeper_fall ocKeeper_lacks kVKeeper_lacks dcKeeper_lacks pmKeeper_lacks cdKeeper_lacks ctKeeper_lacks ocKeeper_is_free kVKeeper_is_free dcKeeper_is_free pmKeeper_is_free cdKeeper_is_free ctKeeper_is_free ocKeeper_chosen kVKeeper_chosen dcKeeper_chosen pmKeeper_chosen cdKeeper_chosen ctKeeper_chosen ocKeeper_beat kVKeeper_beat dcKeeper_beat pmKeeper_beat cdKeeper_beat ctKeeper_beat ocKeeper_log kVKeeper_log dcKeeper_log pmKeeper_log cdKeeper_log ctKeeper_log ocService___init__ kVService___init__ dcService___init__ pmService___init__ cdService___init__ ctService___init__ ocService_put kVService_put dcService_put pmService_put cdService_put ctService_put ocService_count kVService_count dcService_count pmService_count cdService_count ctService_count ocService_fall kVService_fall dcService_fall pmService_fall cdService_fall ctService_fall : Value} {tMOST_SERVICES tMOST_BEATS tBOUNDS_0_0 tBOUNDS_0_1 tBOUNDS_1_0 tBOUNDS_1_1 tBOUNDS_2_0 tBOUNDS_2_1 tBOUNDS_3_0 tBOUNDS_3_1 tBOUNDS_4_0 tBOUNDS_4_1 tMOST_WAIT tOFF tBEGINS tUP tENDS tAGAIN tGIVEN tRUNNING_0 tRUNNING_1 tRUNNING_2 : Tok} {nBOUNDS nBOUNDS_0 nBOUNDS_1 nBOUNDS_2 nBOUNDS_3 nBOUNDS_4 nRUNNING : Nat} {iBOUNDS_0 iBOUNDS_1 iBOUNDS_2 iBOUNDS_3 iBOUNDS_4 iBOUNDS iRUNNING : Array Value}
    (a0 : PySem.W.nsIn K mainGlobals "is_between" = some (some (.ref f0)))
    (l0 : K.lookup f0 = some ⟨oc0, od0, .func (PySem.W.fnOf "is_between" "is_between" (defArgs s_is_between) (defBody s_is_between) (defScope s_is_between) .none kV0 dc0 pm0 an0 cd0 ct0), sl0⟩)
    (c0 : PySem.W.codeIn K cd0 "is_between" = true)
    (k0 : PySem.W.keepIn K (.ref f0) = true)
    (a1 : PySem.W.nsIn K mainGlobals "is_service" = some (some (.ref f1)))
    (l1 : K.lookup f1 = some ⟨oc1, od1, .func (PySem.W.fnOf "is_service" "is_service" (defArgs s_is_service) (defBody s_is_service) (defScope s_is_service) .none kV1 dc1 pm1 an1 cd1 ct1), sl1⟩)
    (c1 : PySem.W.codeIn K cd1 "is_service" = true)
    (k1 : PySem.W.keepIn K (.ref f1) = true)
    (a2 : PySem.W.nsIn K mainGlobals "ring_from" = some (some (.ref f2)))
    (l2 : K.lookup f2 = some ⟨oc2, od2, .func (PySem.W.fnOf "ring_from" "ring_from" (defArgs s_ring_from) (defBody s_ring_from) (defScope s_ring_from) .none kV2 dc2 pm2 an2 cd2 ct2), sl2⟩)
    (c2 : PySem.W.codeIn K cd2 "ring_from" = true)
    (k2 : PySem.W.keepIn K (.ref f2) = true)
    (a3 : PySem.W.nsIn K mainGlobals "first_ring" = some (some (.ref f3)))
    (l3 : K.lookup f3 = some ⟨oc3, od3, .func (PySem.W.fnOf "first_ring" "first_ring" (defArgs s_first_ring) (defBody s_first_ring) (defScope s_first_ring) .none kV3 dc3 pm3 an3 cd3 ct3), sl3⟩)
    (c3 : PySem.W.codeIn K cd3 "first_ring" = true)
    (k3 : PySem.W.keepIn K (.ref f3) = true)
    (a4 : PySem.W.nsIn K mainGlobals "need_services" = some (some (.ref f4)))
    (l4 : K.lookup f4 = some ⟨oc4, od4, .func (PySem.W.fnOf "need_services" "need_services" (defArgs s_need_services) (defBody s_need_services) (defScope s_need_services) .none kV4 dc4 pm4 an4 cd4 ct4), sl4⟩)
    (c4 : PySem.W.codeIn K cd4 "need_services" = true)
    (k4 : PySem.W.keepIn K (.ref f4) = true)
    (a5 : PySem.W.nsIn K mainGlobals "need_plan" = some (some (.ref f5)))
    (l5 : K.lookup f5 = some ⟨oc5, od5, .func (PySem.W.fnOf "need_plan" "need_plan" (defArgs s_need_plan) (defBody s_need_plan) (defScope s_need_plan) .none kV5 dc5 pm5 an5 cd5 ct5), sl5⟩)
    (c5 : PySem.W.codeIn K cd5 "need_plan" = true)
    (k5 : PySem.W.keepIn K (.ref f5) = true)
    (a6 : PySem.W.nsIn K mainGlobals "need_service" = some (some (.ref f6)))
    (l6 : K.lookup f6 = some ⟨oc6, od6, .func (PySem.W.fnOf "need_service" "need_service" (defArgs s_need_service) (defBody s_need_service) (defScope s_need_service) .none kV6 dc6 pm6 an6 cd6 ct6), sl6⟩)
    (c6 : PySem.W.codeIn K cd6 "need_service" = true)
    (k6 : PySem.W.keepIn K (.ref f6) = true)
    (a7 : PySem.W.nsIn K mainGlobals "need_beats" = some (some (.ref f7)))
    (l7 : K.lookup f7 = some ⟨oc7, od7, .func (PySem.W.fnOf "need_beats" "need_beats" (defArgs s_need_beats) (defBody s_need_beats) (defScope s_need_beats) .none kV7 dc7 pm7 an7 cd7 ct7), sl7⟩)
    (c7 : PySem.W.codeIn K cd7 "need_beats" = true)
    (k7 : PySem.W.keepIn K (.ref f7) = true)
    (a8 : PySem.W.nsIn K mainGlobals "wanted_by" = some (some (.ref f8)))
    (l8 : K.lookup f8 = some ⟨oc8, od8, .func (PySem.W.fnOf "wanted_by" "wanted_by" (defArgs s_wanted_by) (defBody s_wanted_by) (defScope s_wanted_by) .none kV8 dc8 pm8 an8 cd8 ct8), sl8⟩)
    (c8 : PySem.W.codeIn K cd8 "wanted_by" = true)
    (k8 : PySem.W.keepIn K (.ref f8) = true)
    (a9 : PySem.W.nsIn K mainGlobals "all_wants" = some (some (.ref f9)))
    (l9 : K.lookup f9 = some ⟨oc9, od9, .func (PySem.W.fnOf "all_wants" "all_wants" (defArgs s_all_wants) (defBody s_all_wants) (defScope s_all_wants) .none kV9 dc9 pm9 an9 cd9 ct9), sl9⟩)
    (c9 : PySem.W.codeIn K cd9 "all_wants" = true)
    (k9 : PySem.W.keepIn K (.ref f9) = true)
    (a10 : PySem.W.nsIn K mainGlobals "wait_of" = some (some (.ref f10)))
    (l10 : K.lookup f10 = some ⟨oc10, od10, .func (PySem.W.fnOf "wait_of" "wait_of" (defArgs s_wait_of) (defBody s_wait_of) (defScope s_wait_of) .none kV10 dc10 pm10 an10 cd10 ct10), sl10⟩)
    (c10 : PySem.W.codeIn K cd10 "wait_of" = true)
    (k10 : PySem.W.keepIn K (.ref f10) = true)
    (a11 : PySem.W.nsIn K mainGlobals "most_of" = some (some (.ref f11)))
    (l11 : K.lookup f11 = some ⟨oc11, od11, .func (PySem.W.fnOf "most_of" "most_of" (defArgs s_most_of) (defBody s_most_of) (defScope s_most_of) .none kV11 dc11 pm11 an11 cd11 ct11), sl11⟩)
    (c11 : PySem.W.codeIn K cd11 "most_of" = true)
    (k11 : PySem.W.keepIn K (.ref f11) = true)
    (a12 : PySem.W.nsIn K mainGlobals "best_from" = some (some (.ref f12)))
    (l12 : K.lookup f12 = some ⟨oc12, od12, .func (PySem.W.fnOf "best_from" "best_from" (defArgs s_best_from) (defBody s_best_from) (defScope s_best_from) .none kV12 dc12 pm12 an12 cd12 ct12), sl12⟩)
    (c12 : PySem.W.codeIn K cd12 "best_from" = true)
    (k12 : PySem.W.keepIn K (.ref f12) = true)
    (a13 : PySem.W.nsIn K mainGlobals "most_begins" = some (some (.ref f13)))
    (l13 : K.lookup f13 = some ⟨oc13, od13, .func (PySem.W.fnOf "most_begins" "most_begins" (defArgs s_most_begins) (defBody s_most_begins) (defScope s_most_begins) .none kV13 dc13 pm13 an13 cd13 ct13), sl13⟩)
    (c13 : PySem.W.codeIn K cd13 "most_begins" = true)
    (k13 : PySem.W.keepIn K (.ref f13) = true)
    (a14 : PySem.W.nsIn K mainGlobals "_law_dice" = some (some (.ref f14)))
    (l14 : K.lookup f14 = some ⟨oc14, od14, .func (PySem.W.fnOf "_law_dice" "_law_dice" (defArgs s__law_dice) (defBody s__law_dice) (defScope s__law_dice) .none kV14 dc14 pm14 an14 cd14 ct14), sl14⟩)
    (c14 : PySem.W.codeIn K cd14 "_law_dice" = true)
    (k14 : PySem.W.keepIn K (.ref f14) = true)
    (a15 : PySem.W.nsIn K mainGlobals "_law_off" = some (some (.ref f15)))
    (l15 : K.lookup f15 = some ⟨oc15, od15, .func (PySem.W.fnOf "_law_off" "_law_off" (defArgs s__law_off) (defBody s__law_off) (defScope s__law_off) .none kV15 dc15 pm15 an15 cd15 ct15), sl15⟩)
    (c15 : PySem.W.codeIn K cd15 "_law_off" = true)
    (k15 : PySem.W.keepIn K (.ref f15) = true)
    (a16 : PySem.W.nsIn K mainGlobals "_law_alike" = some (some (.ref f16)))
    (l16 : K.lookup f16 = some ⟨oc16, od16, .func (PySem.W.fnOf "_law_alike" "_law_alike" (defArgs s__law_alike) (defBody s__law_alike) (defScope s__law_alike) .none kV16 dc16 pm16 an16 cd16 ct16), sl16⟩)
    (c16 : PySem.W.codeIn K cd16 "_law_alike" = true)
    (k16 : PySem.W.keepIn K (.ref f16) = true)
    (a17 : PySem.W.nsIn K mainGlobals "_law_mixed" = some (some (.ref f17)))
    (l17 : K.lookup f17 = some ⟨oc17, od17, .func (PySem.W.fnOf "_law_mixed" "_law_mixed" (defArgs s__law_mixed) (defBody s__law_mixed) (defScope s__law_mixed) .none kV17 dc17 pm17 an17 cd17 ct17), sl17⟩)
    (c17 : PySem.W.codeIn K cd17 "_law_mixed" = true)
    (k17 : PySem.W.keepIn K (.ref f17) = true)
    (a18 : PySem.W.nsIn K mainGlobals "_law_times" = some (some (.ref f18)))
    (l18 : K.lookup f18 = some ⟨oc18, od18, .func (PySem.W.fnOf "_law_times" "_law_times" (defArgs s__law_times) (defBody s__law_times) (defScope s__law_times) .none kV18 dc18 pm18 an18 cd18 ct18), sl18⟩)
    (c18 : PySem.W.codeIn K cd18 "_law_times" = true)
    (k18 : PySem.W.keepIn K (.ref f18) = true)
    (a19 : PySem.W.nsIn K mainGlobals "_law_plan" = some (some (.ref f19)))
    (l19 : K.lookup f19 = some ⟨oc19, od19, .func (PySem.W.fnOf "_law_plan" "_law_plan" (defArgs s__law_plan) (defBody s__law_plan) (defScope s__law_plan) .none kV19 dc19 pm19 an19 cd19 ct19), sl19⟩)
    (c19 : PySem.W.codeIn K cd19 "_law_plan" = true)
    (k19 : PySem.W.keepIn K (.ref f19) = true)
    (a20 : PySem.W.nsIn K mainGlobals "_law_wait" = some (some (.ref f20)))
    (l20 : K.lookup f20 = some ⟨oc20, od20, .func (PySem.W.fnOf "_law_wait" "_law_wait" (defArgs s__law_wait) (defBody s__law_wait) (defScope s__law_wait) .none kV20 dc20 pm20 an20 cd20 ct20), sl20⟩)
    (c20 : PySem.W.codeIn K cd20 "_law_wait" = true)
    (k20 : PySem.W.keepIn K (.ref f20) = true)
    (a21 : PySem.W.nsIn K mainGlobals "_law_table" = some (some (.ref f21)))
    (l21 : K.lookup f21 = some ⟨oc21, od21, .func (PySem.W.fnOf "_law_table" "_law_table" (defArgs s__law_table) (defBody s__law_table) (defScope s__law_table) .none kV21 dc21 pm21 an21 cd21 ct21), sl21⟩)
    (c21 : PySem.W.codeIn K cd21 "_law_table" = true)
    (k21 : PySem.W.keepIn K (.ref f21) = true)
    (a22 : PySem.W.nsIn K mainGlobals "_law_begins" = some (some (.ref f22)))
    (l22 : K.lookup f22 = some ⟨oc22, od22, .func (PySem.W.fnOf "_law_begins" "_law_begins" (defArgs s__law_begins) (defBody s__law_begins) (defScope s__law_begins) .none kV22 dc22 pm22 an22 cd22 ct22), sl22⟩)
    (c22 : PySem.W.codeIn K cd22 "_law_begins" = true)
    (k22 : PySem.W.keepIn K (.ref f22) = true)
    (a23 : PySem.W.nsIn K mainGlobals "law" = some (some (.ref f23)))
    (l23 : K.lookup f23 = some ⟨oc23, od23, .func (PySem.W.fnOf "law" "law" (defArgs s_law) (defBody s_law) (defScope s_law) .none kV23 dc23 pm23 an23 cd23 ct23), sl23⟩)
    (c23 : PySem.W.codeIn K cd23 "law" = true)
    (k23 : PySem.W.keepIn K (.ref f23) = true)
    (aKeeper : PySem.W.nsIn K mainGlobals "Keeper" = some (some (.ref CK)))
    (pgKeeper : PySem.W.plainGet K CK Str.empty = true)
    (hdKeeper : PySem.W.hasDictIn K CK = true)
    (poKeeper : PySem.W.plainOver K CK = true)
    (saKeeper : PySem.W.findIn K (.ref CK) "__setattr__" = some (some (.builtin "object.__setattr__")))
    (mkKeeper : PySem.W.makesIn K CK = true)
    (kcKeeper : PySem.W.keepIn K (.ref CK) = true)
    (nKeeper_plan : PySem.W.findIn K (.ref CK) "plan" = some none)
    (nKeeper_services : PySem.W.findIn K (.ref CK) "services" = some none)
    (nKeeper_goals : PySem.W.findIn K (.ref CK) "goals" = some none)
    (nKeeper_rows : PySem.W.findIn K (.ref CK) "rows" = some none)
    (nKeeper_beats : PySem.W.findIn K (.ref CK) "beats" = some none)
    (aKeeper___init__ : PySem.W.findIn K (.ref CK) "__init__" = some (some (.ref fKeeper___init__)))
    (iKeeper___init__ : PySem.W.isFn K (.ref fKeeper___init__) = true)
    (lKeeper___init__ : K.lookup fKeeper___init__ = some ⟨ocKeeper___init__, odKeeper___init__, .func (PySem.W.fnOf "__init__" "Keeper.__init__" (defArgs s_Keeper___init__) (defBody s_Keeper___init__) (defScope s_Keeper___init__) .none kVKeeper___init__ dcKeeper___init__ pmKeeper___init__ anKeeper___init__ cdKeeper___init__ ctKeeper___init__), slKeeper___init__⟩)
    (cKeeper___init__ : PySem.W.codeIn K cdKeeper___init__ "Keeper.__init__" = true)
    (kKeeper___init__ : PySem.W.keepIn K (.ref fKeeper___init__) = true)
    (aKeeper_tell : PySem.W.findIn K (.ref CK) "tell" = some (some (.ref fKeeper_tell)))
    (iKeeper_tell : PySem.W.isFn K (.ref fKeeper_tell) = true)
    (lKeeper_tell : K.lookup fKeeper_tell = some ⟨ocKeeper_tell, odKeeper_tell, .func (PySem.W.fnOf "tell" "Keeper.tell" (defArgs s_Keeper_tell) (defBody s_Keeper_tell) (defScope s_Keeper_tell) .none kVKeeper_tell dcKeeper_tell pmKeeper_tell anKeeper_tell cdKeeper_tell ctKeeper_tell), slKeeper_tell⟩)
    (cKeeper_tell : PySem.W.codeIn K cdKeeper_tell "Keeper.tell" = true)
    (kKeeper_tell : PySem.W.keepIn K (.ref fKeeper_tell) = true)
    (aKeeper_ask : PySem.W.findIn K (.ref CK) "ask" = some (some (.ref fKeeper_ask)))
    (iKeeper_ask : PySem.W.isFn K (.ref fKeeper_ask) = true)
    (lKeeper_ask : K.lookup fKeeper_ask = some ⟨ocKeeper_ask, odKeeper_ask, .func (PySem.W.fnOf "ask" "Keeper.ask" (defArgs s_Keeper_ask) (defBody s_Keeper_ask) (defScope s_Keeper_ask) .none kVKeeper_ask dcKeeper_ask pmKeeper_ask anKeeper_ask cdKeeper_ask ctKeeper_ask), slKeeper_ask⟩)
    (cKeeper_ask : PySem.W.codeIn K cdKeeper_ask "Keeper.ask" = true)
    (kKeeper_ask : PySem.W.keepIn K (.ref fKeeper_ask) = true)
    (aKeeper_due : PySem.W.findIn K (.ref CK) "due" = some (some (.ref fKeeper_due)))
    (iKeeper_due : PySem.W.isFn K (.ref fKeeper_due) = true)
    (lKeeper_due : K.lookup fKeeper_due = some ⟨ocKeeper_due, odKeeper_due, .func (PySem.W.fnOf "due" "Keeper.due" (defArgs s_Keeper_due) (defBody s_Keeper_due) (defScope s_Keeper_due) .none kVKeeper_due dcKeeper_due pmKeeper_due anKeeper_due cdKeeper_due ctKeeper_due), slKeeper_due⟩)
    (cKeeper_due : PySem.W.codeIn K cdKeeper_due "Keeper.due" = true)
    (kKeeper_due : PySem.W.keepIn K (.ref fKeeper_due) = true)
    (aKeeper_fall : PySem.W.findIn K (.ref CK) "fall" = some (some (.ref fKeeper_fall)))
    (iKeeper_fall : PySem.W.isFn K (.ref fKeeper_fall) = true)
    (lKeeper_fall : K.lookup fKeeper_fall = some ⟨ocKeeper_fall, odKeeper_fall, .func (PySem.W.fnOf "fall" "Keeper.fall" (defArgs s_Keeper_fall) (defBody s_Keeper_fall) (defScope s_Keeper_fall) .none kVKeeper_fall dcKeeper_fall pmKeeper_fall anKeeper_fall cdKeeper_fall ctKeeper_fall), slKeeper_fall⟩)
    (cKeeper_fall : PySem.W.codeIn K cdKeeper_fall "Keeper.fall" = true)
    (kKeeper_fall : PySem.W.keepIn K (.ref fKeeper_fall) = true)
    (aKeeper_lacks : PySem.W.findIn K (.ref CK) "lacks" = some (some (.ref fKeeper_lacks)))
    (iKeeper_lacks : PySem.W.isFn K (.ref fKeeper_lacks) = true)
    (lKeeper_lacks : K.lookup fKeeper_lacks = some ⟨ocKeeper_lacks, odKeeper_lacks, .func (PySem.W.fnOf "lacks" "Keeper.lacks" (defArgs s_Keeper_lacks) (defBody s_Keeper_lacks) (defScope s_Keeper_lacks) .none kVKeeper_lacks dcKeeper_lacks pmKeeper_lacks anKeeper_lacks cdKeeper_lacks ctKeeper_lacks), slKeeper_lacks⟩)
    (cKeeper_lacks : PySem.W.codeIn K cdKeeper_lacks "Keeper.lacks" = true)
    (kKeeper_lacks : PySem.W.keepIn K (.ref fKeeper_lacks) = true)
    (aKeeper_is_free : PySem.W.findIn K (.ref CK) "is_free" = some (some (.ref fKeeper_is_free)))
    (iKeeper_is_free : PySem.W.isFn K (.ref fKeeper_is_free) = true)
    (lKeeper_is_free : K.lookup fKeeper_is_free = some ⟨ocKeeper_is_free, odKeeper_is_free, .func (PySem.W.fnOf "is_free" "Keeper.is_free" (defArgs s_Keeper_is_free) (defBody s_Keeper_is_free) (defScope s_Keeper_is_free) .none kVKeeper_is_free dcKeeper_is_free pmKeeper_is_free anKeeper_is_free cdKeeper_is_free ctKeeper_is_free), slKeeper_is_free⟩)
    (cKeeper_is_free : PySem.W.codeIn K cdKeeper_is_free "Keeper.is_free" = true)
    (kKeeper_is_free : PySem.W.keepIn K (.ref fKeeper_is_free) = true)
    (aKeeper_chosen : PySem.W.findIn K (.ref CK) "chosen" = some (some (.ref fKeeper_chosen)))
    (iKeeper_chosen : PySem.W.isFn K (.ref fKeeper_chosen) = true)
    (lKeeper_chosen : K.lookup fKeeper_chosen = some ⟨ocKeeper_chosen, odKeeper_chosen, .func (PySem.W.fnOf "chosen" "Keeper.chosen" (defArgs s_Keeper_chosen) (defBody s_Keeper_chosen) (defScope s_Keeper_chosen) .none kVKeeper_chosen dcKeeper_chosen pmKeeper_chosen anKeeper_chosen cdKeeper_chosen ctKeeper_chosen), slKeeper_chosen⟩)
    (cKeeper_chosen : PySem.W.codeIn K cdKeeper_chosen "Keeper.chosen" = true)
    (kKeeper_chosen : PySem.W.keepIn K (.ref fKeeper_chosen) = true)
    (aKeeper_beat : PySem.W.findIn K (.ref CK) "beat" = some (some (.ref fKeeper_beat)))
    (iKeeper_beat : PySem.W.isFn K (.ref fKeeper_beat) = true)
    (lKeeper_beat : K.lookup fKeeper_beat = some ⟨ocKeeper_beat, odKeeper_beat, .func (PySem.W.fnOf "beat" "Keeper.beat" (defArgs s_Keeper_beat) (defBody s_Keeper_beat) (defScope s_Keeper_beat) .none kVKeeper_beat dcKeeper_beat pmKeeper_beat anKeeper_beat cdKeeper_beat ctKeeper_beat), slKeeper_beat⟩)
    (cKeeper_beat : PySem.W.codeIn K cdKeeper_beat "Keeper.beat" = true)
    (kKeeper_beat : PySem.W.keepIn K (.ref fKeeper_beat) = true)
    (aKeeper_log : PySem.W.findIn K (.ref CK) "log" = some (some (.ref fKeeper_log)))
    (iKeeper_log : PySem.W.isFn K (.ref fKeeper_log) = true)
    (lKeeper_log : K.lookup fKeeper_log = some ⟨ocKeeper_log, odKeeper_log, .func (PySem.W.fnOf "log" "Keeper.log" (defArgs s_Keeper_log) (defBody s_Keeper_log) (defScope s_Keeper_log) .none kVKeeper_log dcKeeper_log pmKeeper_log anKeeper_log cdKeeper_log ctKeeper_log), slKeeper_log⟩)
    (cKeeper_log : PySem.W.codeIn K cdKeeper_log "Keeper.log" = true)
    (kKeeper_log : PySem.W.keepIn K (.ref fKeeper_log) = true)
    (aService : PySem.W.nsIn K mainGlobals "Service" = some (some (.ref CS)))
    (pgService : PySem.W.plainGet K CS Str.empty = true)
    (hdService : PySem.W.hasDictIn K CS = true)
    (poService : PySem.W.plainOver K CS = true)
    (saService : PySem.W.findIn K (.ref CS) "__setattr__" = some (some (.builtin "object.__setattr__")))
    (mkService : PySem.W.makesIn K CS = true)
    (kcService : PySem.W.keepIn K (.ref CS) = true)
    (nService_plan : PySem.W.findIn K (.ref CS) "plan" = some none)
    (nService_word : PySem.W.findIn K (.ref CS) "word" = some none)
    (nService_left : PySem.W.findIn K (.ref CS) "left" = some none)
    (nService_falls : PySem.W.findIn K (.ref CS) "falls" = some none)
    (aService___init__ : PySem.W.findIn K (.ref CS) "__init__" = some (some (.ref fService___init__)))
    (iService___init__ : PySem.W.isFn K (.ref fService___init__) = true)
    (lService___init__ : K.lookup fService___init__ = some ⟨ocService___init__, odService___init__, .func (PySem.W.fnOf "__init__" "Service.__init__" (defArgs s_Service___init__) (defBody s_Service___init__) (defScope s_Service___init__) .none kVService___init__ dcService___init__ pmService___init__ anService___init__ cdService___init__ ctService___init__), slService___init__⟩)
    (cService___init__ : PySem.W.codeIn K cdService___init__ "Service.__init__" = true)
    (kService___init__ : PySem.W.keepIn K (.ref fService___init__) = true)
    (aService_put : PySem.W.findIn K (.ref CS) "put" = some (some (.ref fService_put)))
    (iService_put : PySem.W.isFn K (.ref fService_put) = true)
    (lService_put : K.lookup fService_put = some ⟨ocService_put, odService_put, .func (PySem.W.fnOf "put" "Service.put" (defArgs s_Service_put) (defBody s_Service_put) (defScope s_Service_put) .none kVService_put dcService_put pmService_put anService_put cdService_put ctService_put), slService_put⟩)
    (cService_put : PySem.W.codeIn K cdService_put "Service.put" = true)
    (kService_put : PySem.W.keepIn K (.ref fService_put) = true)
    (aService_count : PySem.W.findIn K (.ref CS) "count" = some (some (.ref fService_count)))
    (iService_count : PySem.W.isFn K (.ref fService_count) = true)
    (lService_count : K.lookup fService_count = some ⟨ocService_count, odService_count, .func (PySem.W.fnOf "count" "Service.count" (defArgs s_Service_count) (defBody s_Service_count) (defScope s_Service_count) .none kVService_count dcService_count pmService_count anService_count cdService_count ctService_count), slService_count⟩)
    (cService_count : PySem.W.codeIn K cdService_count "Service.count" = true)
    (kService_count : PySem.W.keepIn K (.ref fService_count) = true)
    (aService_fall : PySem.W.findIn K (.ref CS) "fall" = some (some (.ref fService_fall)))
    (iService_fall : PySem.W.isFn K (.ref fService_fall) = true)
    (lService_fall : K.lookup fService_fall = some ⟨ocService_fall, odService_fall, .func (PySem.W.fnOf "fall" "Service.fall" (defArgs s_Service_fall) (defBody s_Service_fall) (defScope s_Service_fall) .none kVService_fall dcService_fall pmService_fall anService_fall cdService_fall ctService_fall), slService_fall⟩)
    (cService_fall : PySem.W.codeIn K cdService_fall "Service.fall" = true)
    (kService_fall : PySem.W.keepIn K (.ref fService_fall) = true)
    (qMOST_SERVICES : PySem.W.nsIn K mainGlobals "MOST_SERVICES" = some (some (.int 12 tMOST_SERVICES)))
    (qMOST_BEATS : PySem.W.nsIn K mainGlobals "MOST_BEATS" = some (some (.int 300 tMOST_BEATS)))
    (qBOUNDS : PySem.W.nsIn K mainGlobals "BOUNDS" = some (some (.ref bBOUNDS)))
    (yBOUNDS_0 : K.lookup bBOUNDS_0 = some ⟨.type "tuple", oBOUNDS_0, .seq iBOUNDS_0 nBOUNDS_0, sBOUNDS_0⟩) (wBOUNDS_0 : iBOUNDS_0 = #[.int 1 tBOUNDS_0_0, .int 20 tBOUNDS_0_1])
    (yBOUNDS_1 : K.lookup bBOUNDS_1 = some ⟨.type "tuple", oBOUNDS_1, .seq iBOUNDS_1 nBOUNDS_1, sBOUNDS_1⟩) (wBOUNDS_1 : iBOUNDS_1 = #[.int 1 tBOUNDS_1_0, .int 20 tBOUNDS_1_1])
    (yBOUNDS_2 : K.lookup bBOUNDS_2 = some ⟨.type "tuple", oBOUNDS_2, .seq iBOUNDS_2 nBOUNDS_2, sBOUNDS_2⟩) (wBOUNDS_2 : iBOUNDS_2 = #[.int 1 tBOUNDS_2_0, .int 20 tBOUNDS_2_1])
    (yBOUNDS_3 : K.lookup bBOUNDS_3 = some ⟨.type "tuple", oBOUNDS_3, .seq iBOUNDS_3 nBOUNDS_3, sBOUNDS_3⟩) (wBOUNDS_3 : iBOUNDS_3 = #[.int 1 tBOUNDS_3_0, .int 50 tBOUNDS_3_1])
    (yBOUNDS_4 : K.lookup bBOUNDS_4 = some ⟨.type "tuple", oBOUNDS_4, .seq iBOUNDS_4 nBOUNDS_4, sBOUNDS_4⟩) (wBOUNDS_4 : iBOUNDS_4 = #[.int 1 tBOUNDS_4_0, .int 9 tBOUNDS_4_1])
    (yBOUNDS : K.lookup bBOUNDS = some ⟨.type "tuple", oBOUNDS, .seq iBOUNDS nBOUNDS, sBOUNDS⟩) (wBOUNDS : iBOUNDS = #[.ref bBOUNDS_0, .ref bBOUNDS_1, .ref bBOUNDS_2, .ref bBOUNDS_3, .ref bBOUNDS_4])
    (qMOST_WAIT : PySem.W.nsIn K mainGlobals "MOST_WAIT" = some (some (.int 600 tMOST_WAIT)))
    (qOFF : PySem.W.nsIn K mainGlobals "OFF" = some (some (.str "off" tOFF)))
    (qBEGINS : PySem.W.nsIn K mainGlobals "BEGINS" = some (some (.str "begins" tBEGINS)))
    (qUP : PySem.W.nsIn K mainGlobals "UP" = some (some (.str "up" tUP)))
    (qENDS : PySem.W.nsIn K mainGlobals "ENDS" = some (some (.str "ends" tENDS)))
    (qAGAIN : PySem.W.nsIn K mainGlobals "AGAIN" = some (some (.str "again" tAGAIN)))
    (qGIVEN : PySem.W.nsIn K mainGlobals "GIVEN" = some (some (.str "given" tGIVEN)))
    (qRUNNING : PySem.W.nsIn K mainGlobals "RUNNING" = some (some (.ref bRUNNING)))
    (yRUNNING : K.lookup bRUNNING = some ⟨.type "tuple", oRUNNING, .seq iRUNNING nRUNNING, sRUNNING⟩) (wRUNNING : iRUNNING = #[.str "begins" tRUNNING_0, .str "up" tRUNNING_1, .str "ends" tRUNNING_2])
    (zlen : PySem.W.nsIn K mainGlobals "len" = some none)
    (zrange : PySem.W.nsIn K mainGlobals "range" = some none)
    (zsorted : PySem.W.nsIn K mainGlobals "sorted" = some none)
    (zset : PySem.W.nsIn K mainGlobals "set" = some none)
    (zisinstance : PySem.W.nsIn K mainGlobals "isinstance" = some none)
    (zenumerate : PySem.W.nsIn K mainGlobals "enumerate" = some none)
    (zlist : PySem.W.nsIn K mainGlobals "list" = some none)
    (ztuple : PySem.W.nsIn K mainGlobals "tuple" = some none)
    (zabs : PySem.W.nsIn K mainGlobals "abs" = some none)
    (zmin : PySem.W.nsIn K mainGlobals "min" = some none)
    (zmax : PySem.W.nsIn K mainGlobals "max" = some none)
    (zint : PySem.W.nsIn K mainGlobals "int" = some none)
    (zstr : PySem.W.nsIn K mainGlobals "str" = some none)
    (zbool : PySem.W.nsIn K mainGlobals "bool" = some none)
    (zdict : PySem.W.nsIn K mainGlobals "dict" = some none)
    (zall : PySem.W.nsIn K mainGlobals "all" = some none)
    (zsum : PySem.W.nsIn K mainGlobals "sum" = some none)
    : ∃ fd : FuncData, (∀ (s : Shared) (v : Value), BindsTo s fd ⟨[v], []⟩ [("_law_script", v)]) ∧ ∀ base : Heap, K.In base → base.Ns mainGlobals mg → FnOk l.prog w K mg base CX0 8 fa fd ["_law_script"] (spLaw K) := by
  have e := hfa.symm.trans (PySem.W.mg_of X G a23)
  cases e
  have F0 := fun_mk (st := s_is_between) l0 c0 k0
  have D_is_between : Df K mg "is_between" s_is_between ["part", "low", "high"] := df_of F0 (PySem.W.mg_of X G a0) (F0.binds fun _ _ _ _ _ _ us hl => match us, hl with | [_, _, _], _ => rfl)
  have F1 := fun_mk (st := s_is_service) l1 c1 k1
  have D_is_service : Df K mg "is_service" s_is_service ["service", "many", "number"] := df_of F1 (PySem.W.mg_of X G a1) (F1.binds fun _ _ _ _ _ _ us hl => match us, hl with | [_, _, _], _ => rfl)
  have F2 := fun_mk (st := s_ring_from) l2 c2 k2
  have D_ring_from : Df K mg "ring_from" s_ring_from ["plan", "begin"] := df_of F2 (PySem.W.mg_of X G a2) (F2.binds fun _ _ _ _ _ _ us hl => match us, hl with | [_, _], _ => rfl)
  have F3 := fun_mk (st := s_first_ring) l3 c3 k3
  have D_first_ring : Df K mg "first_ring" s_first_ring ["plan"] := df_of F3 (PySem.W.mg_of X G a3) (F3.binds fun _ _ _ _ _ _ us hl => match us, hl with | [_], _ => rfl)
  have F4 := fun_mk (st := s_need_services) l4 c4 k4
  have D_need_services : Df K mg "need_services" s_need_services ["plan"] := df_of F4 (PySem.W.mg_of X G a4) (F4.binds fun _ _ _ _ _ _ us hl => match us, hl with | [_], _ => rfl)
  have F5 := fun_mk (st := s_need_plan) l5 c5 k5
  have D_need_plan : Df K mg "need_plan" s_need_plan ["plan"] := df_of F5 (PySem.W.mg_of X G a5) (F5.binds fun _ _ _ _ _ _ us hl => match us, hl with | [_], _ => rfl)
  have F6 := fun_mk (st := s_need_service) l6 c6 k6
  have D_need_service : Df K mg "need_service" s_need_service ["plan", "number"] := df_of F6 (PySem.W.mg_of X G a6) (F6.binds fun _ _ _ _ _ _ us hl => match us, hl with | [_, _], _ => rfl)
  have F7 := fun_mk (st := s_need_beats) l7 c7 k7
  have D_need_beats : Df K mg "need_beats" s_need_beats ["beats"] := df_of F7 (PySem.W.mg_of X G a7) (F7.binds fun _ _ _ _ _ _ us hl => match us, hl with | [_], _ => rfl)
  have F8 := fun_mk (st := s_wanted_by) l8 c8 k8
  have D_wanted_by : Df K mg "wanted_by" s_wanted_by ["plan", "number"] := df_of F8 (PySem.W.mg_of X G a8) (F8.binds fun _ _ _ _ _ _ us hl => match us, hl with | [_, _], _ => rfl)
  have F9 := fun_mk (st := s_all_wants) l9 c9 k9
  have D_all_wants : Df K mg "all_wants" s_all_wants ["plan", "number"] := df_of F9 (PySem.W.mg_of X G a9) (F9.binds fun _ _ _ _ _ _ us hl => match us, hl with | [_, _], _ => rfl)
  have F10 := fun_mk (st := s_wait_of) l10 c10 k10
  have D_wait_of : Df K mg "wait_of" s_wait_of ["service", "falls"] := df_of F10 (PySem.W.mg_of X G a10) (F10.binds fun _ _ _ _ _ _ us hl => match us, hl with | [_, _], _ => rfl)
  have F11 := fun_mk (st := s_most_of) l11 c11 k11
  have D_most_of : Df K mg "most_of" s_most_of ["service", "beats"] := df_of F11 (PySem.W.mg_of X G a11) (F11.binds fun _ _ _ _ _ _ us hl => match us, hl with | [_, _], _ => rfl)
  have F12 := fun_mk (st := s_best_from) l12 c12 k12
  have D_best_from : Df K mg "best_from" s_best_from ["service", "beat", "falls", "known"] := df_of F12 (PySem.W.mg_of X G a12) (F12.binds fun _ _ _ _ _ _ us hl => match us, hl with | [_, _, _, _], _ => rfl)
  have F13 := fun_mk (st := s_most_begins) l13 c13 k13
  have D_most_begins : Df K mg "most_begins" s_most_begins ["plan", "number", "beats"] := df_of F13 (PySem.W.mg_of X G a13) (F13.binds fun _ _ _ _ _ _ us hl => match us, hl with | [_, _, _], _ => rfl)
  have F14 := fun_mk (st := s__law_dice) l14 c14 k14
  have D__law_dice : Df K mg "_law_dice" s__law_dice ["_law_script", "_law_k"] := df_of F14 (PySem.W.mg_of X G a14) (F14.binds fun _ _ _ _ _ _ us hl => match us, hl with | [_, _], _ => rfl)
  have F15 := fun_mk (st := s__law_off) l15 c15 k15
  have D__law_off : Df K mg "_law_off" s__law_off ["_law_d", "_law_most"] := df_of F15 (PySem.W.mg_of X G a15) (F15.binds fun _ _ _ _ _ _ us hl => match us, hl with | [_, _], _ => rfl)
  have F16 := fun_mk (st := s__law_alike) l16 c16 k16
  have D__law_alike : Df K mg "_law_alike" s__law_alike ["_law_found", "_law_due"] := df_of F16 (PySem.W.mg_of X G a16) (F16.binds fun _ _ _ _ _ _ us hl => match us, hl with | [_, _], _ => rfl)
  have F17 := fun_mk (st := s__law_mixed) l17 c17 k17
  have D__law_mixed : Df K mg "_law_mixed" s__law_mixed ["_law_d", "_law_row"] := df_of F17 (PySem.W.mg_of X G a17) (F17.binds fun _ _ _ _ _ _ us hl => match us, hl with | [_, _], _ => rfl)
  have F18 := fun_mk (st := s__law_times) l18 c18 k18
  have D__law_times : Df K mg "_law_times" s__law_times ["_law_d"] := df_of F18 (PySem.W.mg_of X G a18) (F18.binds fun _ _ _ _ _ _ us hl => match us, hl with | [_], _ => rfl)
  have F19 := fun_mk (st := s__law_plan) l19 c19 k19
  have D__law_plan : Df K mg "_law_plan" s__law_plan ["_law_d", "_law_limit"] := df_of F19 (PySem.W.mg_of X G a19) (F19.binds fun _ _ _ _ _ _ us hl => match us, hl with | [_, _], _ => rfl)
  have F20 := fun_mk (st := s__law_wait) l20 c20 k20
  have D__law_wait : Df K mg "_law_wait" s__law_wait ["_law_plan_here", "_law_number", "_law_falls"] := df_of F20 (PySem.W.mg_of X G a20) (F20.binds fun _ _ _ _ _ _ us hl => match us, hl with | [_, _, _], _ => rfl)
  have F21 := fun_mk (st := s__law_table) l21 c21 k21
  have D__law_table : Df K mg "_law_table" s__law_table ["_law_service", "_law_beats"] := df_of F21 (PySem.W.mg_of X G a21) (F21.binds fun _ _ _ _ _ _ us hl => match us, hl with | [_, _], _ => rfl)
  have F22 := fun_mk (st := s__law_begins) l22 c22 k22
  have D__law_begins : Df K mg "_law_begins" s__law_begins ["_law_service", "_law_beats", "_law_falls"] := df_of F22 (PySem.W.mg_of X G a22) (F22.binds fun _ _ _ _ _ _ us hl => match us, hl with | [_, _, _], _ => rfl)
  have kKeeper : Cls K CK := ⟨pgKeeper, hdKeeper, poKeeper, saKeeper⟩
  have FKeeper___init__ := fun_mk (st := s_Keeper___init__) lKeeper___init__ cKeeper___init__ kKeeper___init__
  have D_Keeper___init__ : DfI K mg CK "Keeper" "Keeper.__init__" s_Keeper___init__ ["self", "plan"] := ⟨_, _, FKeeper___init__, ⟨mkKeeper, aKeeper___init__, iKeeper___init__, kcKeeper⟩, PySem.W.mg_of X G aKeeper, (FKeeper___init__.binds fun _ _ _ _ _ _ us hl => match us, hl with | [_, _], _ => rfl)⟩
  have FKeeper_tell := fun_mk (st := s_Keeper_tell) lKeeper_tell cKeeper_tell kKeeper_tell
  have D_Keeper_tell : DfM K CK "tell" "Keeper.tell" s_Keeper_tell ["self", "number", "word"] := ⟨_, _, FKeeper_tell, kKeeper, ⟨aKeeper_tell, iKeeper_tell, kKeeper_tell⟩, (FKeeper_tell.binds fun _ _ _ _ _ _ us hl => match us, hl with | [_, _, _], _ => rfl)⟩
  have FKeeper_ask := fun_mk (st := s_Keeper_ask) lKeeper_ask cKeeper_ask kKeeper_ask
  have D_Keeper_ask : DfM K CK "ask" "Keeper.ask" s_Keeper_ask ["self", "number"] := ⟨_, _, FKeeper_ask, kKeeper, ⟨aKeeper_ask, iKeeper_ask, kKeeper_ask⟩, (FKeeper_ask.binds fun _ _ _ _ _ _ us hl => match us, hl with | [_, _], _ => rfl)⟩
  have FKeeper_due := fun_mk (st := s_Keeper_due) lKeeper_due cKeeper_due kKeeper_due
  have D_Keeper_due : DfM K CK "due" "Keeper.due" s_Keeper_due ["self"] := ⟨_, _, FKeeper_due, kKeeper, ⟨aKeeper_due, iKeeper_due, kKeeper_due⟩, (FKeeper_due.binds fun _ _ _ _ _ _ us hl => match us, hl with | [_], _ => rfl)⟩
  have FKeeper_fall := fun_mk (st := s_Keeper_fall) lKeeper_fall cKeeper_fall kKeeper_fall
  have D_Keeper_fall : DfM K CK "fall" "Keeper.fall" s_Keeper_fall ["self", "number"] := ⟨_, _, FKeeper_fall, kKeeper, ⟨aKeeper_fall, iKeeper_fall, kKeeper_fall⟩, (FKeeper_fall.binds fun _ _ _ _ _ _ us hl => match us, hl with | [_, _], _ => rfl)⟩
  have FKeeper_lacks := fun_mk (st := s_Keeper_lacks) lKeeper_lacks cKeeper_lacks kKeeper_lacks
  have D_Keeper_lacks : DfM K CK "lacks" "Keeper.lacks" s_Keeper_lacks ["self", "number"] := ⟨_, _, FKeeper_lacks, kKeeper, ⟨aKeeper_lacks, iKeeper_lacks, kKeeper_lacks⟩, (FKeeper_lacks.binds fun _ _ _ _ _ _ us hl => match us, hl with | [_, _], _ => rfl)⟩
  have FKeeper_is_free := fun_mk (st := s_Keeper_is_free) lKeeper_is_free cKeeper_is_free kKeeper_is_free
  have D_Keeper_is_free : DfM K CK "is_free" "Keeper.is_free" s_Keeper_is_free ["self", "number"] := ⟨_, _, FKeeper_is_free, kKeeper, ⟨aKeeper_is_free, iKeeper_is_free, kKeeper_is_free⟩, (FKeeper_is_free.binds fun _ _ _ _ _ _ us hl => match us, hl with | [_, _], _ => rfl)⟩
  have FKeeper_chosen := fun_mk (st := s_Keeper_chosen) lKeeper_chosen cKeeper_chosen kKeeper_chosen
  have D_Keeper_chosen : DfM K CK "chosen" "Keeper.chosen" s_Keeper_chosen ["self"] := ⟨_, _, FKeeper_chosen, kKeeper, ⟨aKeeper_chosen, iKeeper_chosen, kKeeper_chosen⟩, (FKeeper_chosen.binds fun _ _ _ _ _ _ us hl => match us, hl with | [_], _ => rfl)⟩
  have FKeeper_beat := fun_mk (st := s_Keeper_beat) lKeeper_beat cKeeper_beat kKeeper_beat
  have D_Keeper_beat : DfM K CK "beat" "Keeper.beat" s_Keeper_beat ["self"] := ⟨_, _, FKeeper_beat, kKeeper, ⟨aKeeper_beat, iKeeper_beat, kKeeper_beat⟩, (FKeeper_beat.binds fun _ _ _ _ _ _ us hl => match us, hl with | [_], _ => rfl)⟩
  have FKeeper_log := fun_mk (st := s_Keeper_log) lKeeper_log cKeeper_log kKeeper_log
  have D_Keeper_log : DfM K CK "log" "Keeper.log" s_Keeper_log ["self"] := ⟨_, _, FKeeper_log, kKeeper, ⟨aKeeper_log, iKeeper_log, kKeeper_log⟩, (FKeeper_log.binds fun _ _ _ _ _ _ us hl => match us, hl with | [_], _ => rfl)⟩
  have kService : Cls K CS := ⟨pgService, hdService, poService, saService⟩
  have FService___init__ := fun_mk (st := s_Service___init__) lService___init__ cService___init__ kService___init__
  have D_Service___init__ : DfI K mg CS "Service" "Service.__init__" s_Service___init__ ["self", "plan"] := ⟨_, _, FService___init__, ⟨mkService, aService___init__, iService___init__, kcService⟩, PySem.W.mg_of X G aService, (FService___init__.binds fun _ _ _ _ _ _ us hl => match us, hl with | [_, _], _ => rfl)⟩
  have FService_put := fun_mk (st := s_Service_put) lService_put cService_put kService_put
  have D_Service_put : DfM K CS "put" "Service.put" s_Service_put ["self", "word", "left"] := ⟨_, _, FService_put, kService, ⟨aService_put, iService_put, kService_put⟩, (FService_put.binds fun _ _ _ _ _ _ us hl => match us, hl with | [_, _, _], _ => rfl)⟩
  have FService_count := fun_mk (st := s_Service_count) lService_count cService_count kService_count
  have D_Service_count : DfM K CS "count" "Service.count" s_Service_count ["self"] := ⟨_, _, FService_count, kService, ⟨aService_count, iService_count, kService_count⟩, (FService_count.binds fun _ _ _ _ _ _ us hl => match us, hl with | [_], _ => rfl)⟩
  have FService_fall := fun_mk (st := s_Service_fall) lService_fall cService_fall kService_fall
  have D_Service_fall : DfM K CS "fall" "Service.fall" s_Service_fall ["self"] := ⟨_, _, FService_fall, kService, ⟨aService_fall, iService_fall, kService_fall⟩, (FService_fall.binds fun _ _ _ _ _ _ us hl => match us, hl with | [_], _ => rfl)⟩
  have C_MOST_SERVICES := cst_int (K := K) (PySem.W.mg_of X G qMOST_SERVICES)
  have C_MOST_BEATS := cst_int (K := K) (PySem.W.mg_of X G qMOST_BEATS)
  subst wBOUNDS_0
  have dBOUNDS_0 := tup_K (K := K) yBOUNDS_0 (Nat.le_of_ble_eq_true rfl) (xs := [.int 1, .int 20]) (.cons ⟨_, rfl⟩ (.cons ⟨_, rfl⟩ (.nil))) (fun B => .cons (.int 1) (.cons (.int 20) (.nil)))
  subst wBOUNDS_1
  have dBOUNDS_1 := tup_K (K := K) yBOUNDS_1 (Nat.le_of_ble_eq_true rfl) (xs := [.int 1, .int 20]) (.cons ⟨_, rfl⟩ (.cons ⟨_, rfl⟩ (.nil))) (fun B => .cons (.int 1) (.cons (.int 20) (.nil)))
  subst wBOUNDS_2
  have dBOUNDS_2 := tup_K (K := K) yBOUNDS_2 (Nat.le_of_ble_eq_true rfl) (xs := [.int 1, .int 20]) (.cons ⟨_, rfl⟩ (.cons ⟨_, rfl⟩ (.nil))) (fun B => .cons (.int 1) (.cons (.int 20) (.nil)))
  subst wBOUNDS_3
  have dBOUNDS_3 := tup_K (K := K) yBOUNDS_3 (Nat.le_of_ble_eq_true rfl) (xs := [.int 1, .int 50]) (.cons ⟨_, rfl⟩ (.cons ⟨_, rfl⟩ (.nil))) (fun B => .cons (.int 1) (.cons (.int 50) (.nil)))
  subst wBOUNDS_4
  have dBOUNDS_4 := tup_K (K := K) yBOUNDS_4 (Nat.le_of_ble_eq_true rfl) (xs := [.int 1, .int 9]) (.cons ⟨_, rfl⟩ (.cons ⟨_, rfl⟩ (.nil))) (fun B => .cons (.int 1) (.cons (.int 9) (.nil)))
  subst wBOUNDS
  have dBOUNDS := tup_K (K := K) yBOUNDS (Nat.le_of_ble_eq_true rfl) (xs := [.ref bBOUNDS_0, .ref bBOUNDS_1, .ref bBOUNDS_2, .ref bBOUNDS_3, .ref bBOUNDS_4]) (.cons rfl (.cons rfl (.cons rfl (.cons rfl (.cons rfl (.nil)))))) (fun B => .cons (dBOUNDS_0 B) (.cons (dBOUNDS_1 B) (.cons (dBOUNDS_2 B) (.cons (dBOUNDS_3 B) (.cons (dBOUNDS_4 B) (.nil))))))
  have C_BOUNDS := cst_tup (K := K) (PySem.W.mg_of X G qBOUNDS) dBOUNDS
  have C_MOST_WAIT := cst_int (K := K) (PySem.W.mg_of X G qMOST_WAIT)
  have C_OFF := cst_str (K := K) (PySem.W.mg_of X G qOFF)
  have R_OFF : ∃ u, mg "OFF" = some u ∧ L2.RelV (.str "off") u := ⟨_, PySem.W.mg_of X G qOFF, _, rfl⟩
  have C_BEGINS := cst_str (K := K) (PySem.W.mg_of X G qBEGINS)
  have R_BEGINS : ∃ u, mg "BEGINS" = some u ∧ L2.RelV (.str "begins") u := ⟨_, PySem.W.mg_of X G qBEGINS, _, rfl⟩
  have C_UP := cst_str (K := K) (PySem.W.mg_of X G qUP)
  have R_UP : ∃ u, mg "UP" = some u ∧ L2.RelV (.str "up") u := ⟨_, PySem.W.mg_of X G qUP, _, rfl⟩
  have C_ENDS := cst_str (K := K) (PySem.W.mg_of X G qENDS)
  have R_ENDS : ∃ u, mg "ENDS" = some u ∧ L2.RelV (.str "ends") u := ⟨_, PySem.W.mg_of X G qENDS, _, rfl⟩
  have C_AGAIN := cst_str (K := K) (PySem.W.mg_of X G qAGAIN)
  have R_AGAIN : ∃ u, mg "AGAIN" = some u ∧ L2.RelV (.str "again") u := ⟨_, PySem.W.mg_of X G qAGAIN, _, rfl⟩
  have C_GIVEN := cst_str (K := K) (PySem.W.mg_of X G qGIVEN)
  have R_GIVEN : ∃ u, mg "GIVEN" = some u ∧ L2.RelV (.str "given") u := ⟨_, PySem.W.mg_of X G qGIVEN, _, rfl⟩
  subst wRUNNING
  have dRUNNING := tup_K (K := K) yRUNNING (Nat.le_of_ble_eq_true rfl) (xs := [.str "begins", .str "up", .str "ends"]) (.cons ⟨_, rfl⟩ (.cons ⟨_, rfl⟩ (.cons ⟨_, rfl⟩ (.nil)))) (fun B => .cons (.str "begins") (.cons (.str "up") (.cons (.str "ends") (.nil))))
  have C_RUNNING := cst_tup (K := K) (PySem.W.mg_of X G qRUNNING) dRUNNING
  have B : Bn mg := ⟨PySem.W.mg_none_of X G zlen, PySem.W.mg_none_of X G zrange, PySem.W.mg_none_of X G zsorted, PySem.W.mg_none_of X G zset, PySem.W.mg_none_of X G zisinstance, PySem.W.mg_none_of X G zenumerate, PySem.W.mg_none_of X G zlist, PySem.W.mg_none_of X G ztuple, PySem.W.mg_none_of X G zabs, PySem.W.mg_none_of X G zmin, PySem.W.mg_none_of X G zmax, PySem.W.mg_none_of X G zint, PySem.W.mg_none_of X G zstr, PySem.W.mg_none_of X G zbool, PySem.W.mg_none_of X G zdict, PySem.W.mg_none_of X G zall, PySem.W.mg_none_of X G zsum⟩
  refine ⟨PySem.W.fnOf "law" "law" (defArgs s_law) (defBody s_law) (defScope s_law) .none kV23 dc23 pm23 an23 cd23 ct23, fun s v => .of_eq rfl, fun base _ _ => ?_⟩
  have T : KTxt K CK CS := ⟨kKeeper, kService, nKeeper_plan, nKeeper_services, nKeeper_goals, nKeeper_rows, nKeeper_beats, nService_plan, nService_word, nService_left, nService_falls⟩
  have C : KC K mg := ⟨R_OFF, R_BEGINS, R_UP, R_ENDS, R_AGAIN, R_GIVEN, C_RUNNING⟩
  have h_between := ok_is_between (P := l.prog) (w := w) (base := base) D_is_between B
  have h_service := ok_is_service D_is_service B h_between C_BOUNDS
  have h_ring := ok_ring_from (P := l.prog) (w := w) (base := base) D_ring_from B
  have h_first := ok_first_ring D_first_ring B h_ring
  have h_services := ok_need_services D_need_services B C_MOST_SERVICES h_service
  have h_need := ok_need_plan D_need_plan B h_services h_first
  have h_dice := ok__law_dice (P := l.prog) (w := w) (base := base) D__law_dice B
  have h_off := ok__law_off (P := l.prog) (w := w) (base := base) D__law_off B
  have h_mixed := ok__law_mixed D__law_mixed B h_off
  have h_times := ok__law_times D__law_times B h_off
  have h_plan := ok__law_plan D__law_plan B h_off h_mixed h_times
  have h_needS := ok_need_service D_need_service B h_between
  have h_wanted := ok_wanted_by (P := l.prog) (w := w) (base := base) D_wanted_by B
  have h_all := ok_all_wants (P := l.prog) (w := w) (base := base) D_all_wants B
  have h_wait := ok_wait_of (P := l.prog) (w := w) (base := base) D_wait_of B C_MOST_WAIT
  have h_put := ok_put (P := l.prog) (w := w) (mg := mg) (base := base) D_Service_put T
  have h_count := ok_count D_Service_count T C h_put
  have h_falls := ok_falls D_Service_fall T C h_put h_wait
  have h_tell := ok_tell (P := l.prog) (w := w) (mg := mg) (base := base) D_Keeper_tell T
  have h_lacks := ok_lacks D_Keeper_lacks T C h_all
  have h_free := ok_is_free D_Keeper_is_free T C h_wanted
  have h_log := ok_log (P := l.prog) (w := w) (base := base) D_Keeper_log T B
  have h_due := ok_due D_Keeper_due T B h_all
  have h_ask := ok_ask D_Keeper_ask T C h_needS h_all h_put
  have h_kfall := ok_kfall D_Keeper_fall T C h_needS h_tell h_falls
  have h_chosen := ok_chosen D_Keeper_chosen T B C h_due h_lacks h_free
  have h_beat := ok_beat D_Keeper_beat T B C h_count h_put h_tell h_chosen
  have h_Service := ok_service_init (P := l.prog) (w := w) (base := base) D_Service___init__ T C
  have h_Keeper := ok_keeper_init D_Keeper___init__ T B h_need h_Service
  have h_needB := ok_need_beats D_need_beats B C_MOST_BEATS h_between
  have h_best := ok_best_from D_best_from B h_wait
  have h_mostof := ok_most_of D_most_of B h_best
  have h_most := ok_most_begins D_most_begins B h_need h_needS h_needB h_mostof
  have h_lwait := ok__law_wait8 (P := l.prog) (w := w) (base := base) D__law_wait B
  have h_table := ok__law_table D__law_table B h_lwait
  have h_begins := ok__law_begins D__law_begins B T h_Keeper h_ask h_kfall h_beat h_log
  exact fnLaw (ok_law (fun_mk (st := s_law) l23 c23 k23) B h_dice h_off h_plan (ok__law_alike D__law_alike B 1) h_table h_begins h_most)
theorem walk {l : PySem.W.OpenLaw} {q : Program} {loose : List Str} {XP : (Str → Option Value) → Heap → Prop} {YP : World → Heap → Prop} {d : DefRec} {K : Params → PySem.W.Frag} (hn : l.most = some 63) (hdf : d.params.defaults = [])
    (hY : ∀ (w : World) (h : Heap), YP w h → (K w.params).In h)
    (F : ∀ (w : World) (mg : Str → Option Value) (fa : Addr) (h : Heap), (K w.params).In h → h.Ns mainGlobals mg → mg d.name = some (.ref fa) →
      ∃ fd : FuncData, (∀ (s : Shared) (u : Value), BindsTo s fd ⟨[u], []⟩ [("_law_script", u)]) ∧ ∀ base : Heap, (K w.params).In base → base.Ns mainGlobals mg → FnOk l.prog w (K w.params) mg base CX0 8 fa fd ["_law_script"] (spLaw (K w.params))) :
    PySem.W.WalkO q loose XP YP l.row.toRowW d [] (fun f vs => PySem.call f vs) :=
  L2.walk_of (n := 63) (k := 8) (x := "_law_script") (CX := fun _ => CX0) (sp := fun w => spLaw (K w.params)) hn (by decide) hdf ⟨rfl, by decide, by decide⟩ hY F (fun _ _ a ns hl _ hS => ⟨a, ns, rfl, hS, hl, fun _ => rfl⟩) fun _ _ _ _ _ z => z
end Kr
open PySem PySem.W PyProof.Rows in
set_option maxRecDepth 100000 in
set_option maxHeartbeats 0 in
set_option pp.maxSteps 60 in
set_option pp.deepTerms.threshold 2 in
theorem PySem.Challenge.cw_keeprunning_k08_most_begins_holds : PySem.Challenge.rw_keeprunning_k08_most_begins.Holds := by
  w_on; o_law; k_head; (case hw => w_witness2)
  k_fill
  refine Kr.walk (l := PySem.Challenge.rw_keeprunning_k08_most_begins) rfl rfl (fun w h Y => PySem.W.kIn_of Y) ?F
  case F =>
    intro w mg fa h KX G hmg
    refine' Kr.all_mk KX G hmg ?a0 ?l0 ?c0 ?k0 ?a1 ?l1 ?c1 ?k1 ?a2 ?l2 ?c2 ?k2 ?a3 ?l3 ?c3 ?k3 ?a4 ?l4 ?c4 ?k4 ?a5 ?l5 ?c5 ?k5 ?a6 ?l6 ?c6 ?k6 ?a7 ?l7 ?c7 ?k7 ?a8 ?l8 ?c8 ?k8 ?a9 ?l9 ?c9 ?k9 ?a10 ?l10 ?c10 ?k10 ?a11 ?l11 ?c11 ?k11 ?a12 ?l12 ?c12 ?k12 ?a13 ?l13 ?c13 ?k13 ?a14 ?l14 ?c14 ?k14 ?a15 ?l15 ?c15 ?k15 ?a16 ?l16 ?c16 ?k16 ?a17 ?l17 ?c17 ?k17 ?a18 ?l18 ?c18 ?k18 ?a19 ?l19 ?c19 ?k19 ?a20 ?l20 ?c20 ?k20 ?a21 ?l21 ?c21 ?k21 ?a22 ?l22 ?c22 ?k22 ?a23 ?l23 ?c23 ?k23 ?aKeeper ?pgKeeper ?hdKeeper ?poKeeper ?saKeeper ?mkKeeper ?kcKeeper ?nKeeper_plan ?nKeeper_services ?nKeeper_goals ?nKeeper_rows ?nKeeper_beats ?aKeeper___init__ ?iKeeper___init__ ?lKeeper___init__ ?cKeeper___init__ ?kKeeper___init__ ?aKeeper_tell ?iKeeper_tell ?lKeeper_tell ?cKeeper_tell ?kKeeper_tell ?aKeeper_ask ?iKeeper_ask ?lKeeper_ask ?cKeeper_ask ?kKeeper_ask ?aKeeper_due ?iKeeper_due ?lKeeper_due ?cKeeper_due ?kKeeper_due ?aKeeper_fall ?iKeeper_fall ?lKeeper_fall ?cKeeper_fall ?kKeeper_fall ?aKeeper_lacks ?iKeeper_lacks ?lKeeper_lacks ?cKeeper_lacks ?kKeeper_lacks ?aKeeper_is_free ?iKeeper_is_free ?lKeeper_is_free ?cKeeper_is_free ?kKeeper_is_free ?aKeeper_chosen ?iKeeper_chosen ?lKeeper_chosen ?cKeeper_chosen ?kKeeper_chosen ?aKeeper_beat ?iKeeper_beat ?lKeeper_beat ?cKeeper_beat ?kKeeper_beat ?aKeeper_log ?iKeeper_log ?lKeeper_log ?cKeeper_log ?kKeeper_log ?aService ?pgService ?hdService ?poService ?saService ?mkService ?kcService ?nService_plan ?nService_word ?nService_left ?nService_falls ?aService___init__ ?iService___init__ ?lService___init__ ?cService___init__ ?kService___init__ ?aService_put ?iService_put ?lService_put ?cService_put ?kService_put ?aService_count ?iService_count ?lService_count ?cService_count ?kService_count ?aService_fall ?iService_fall ?lService_fall ?cService_fall ?kService_fall ?qMOST_SERVICES ?qMOST_BEATS ?qBOUNDS ?yBOUNDS_0 ?wBOUNDS_0 ?yBOUNDS_1 ?wBOUNDS_1 ?yBOUNDS_2 ?wBOUNDS_2 ?yBOUNDS_3 ?wBOUNDS_3 ?yBOUNDS_4 ?wBOUNDS_4 ?yBOUNDS ?wBOUNDS ?qMOST_WAIT ?qOFF ?qBEGINS ?qUP ?qENDS ?qAGAIN ?qGIVEN ?qRUNNING ?yRUNNING ?wRUNNING ?zlen ?zrange ?zsorted ?zset ?zisinstance ?zenumerate ?zlist ?ztuple ?zabs ?zmin ?zmax ?zint ?zstr ?zbool ?zdict ?zall ?zsum
    (case a0 => k_is)
    (case l0 => k_is)
    (case c0 => k_is)
    (case k0 => k_is)
    (case a1 => k_is)
    (case l1 => k_is)
    (case c1 => k_is)
    (case k1 => k_is)
    (case a2 => k_is)
    (case l2 => k_is)
    (case c2 => k_is)
    (case k2 => k_is)
    (case a3 => k_is)
    (case l3 => k_is)
    (case c3 => k_is)
    (case k3 => k_is)
    (case a4 => k_is)
    (case l4 => k_is)
    (case c4 => k_is)
    (case k4 => k_is)
    (case a5 => k_is)
    (case l5 => k_is)
    (case c5 => k_is)
    (case k5 => k_is)
    (case a6 => k_is)
    (case l6 => k_is)
    (case c6 => k_is)
    (case k6 => k_is)
    (case a7 => k_is)
    (case l7 => k_is)
    (case c7 => k_is)
    (case k7 => k_is)
    (case a8 => k_is)
    (case l8 => k_is)
    (case c8 => k_is)
    (case k8 => k_is)
    (case a9 => k_is)
    (case l9 => k_is)
    (case c9 => k_is)
    (case k9 => k_is)
    (case a10 => k_is)
    (case l10 => k_is)
    (case c10 => k_is)
    (case k10 => k_is)
    (case a11 => k_is)
    (case l11 => k_is)
    (case c11 => k_is)
    (case k11 => k_is)
    (case a12 => k_is)
    (case l12 => k_is)
    (case c12 => k_is)
    (case k12 => k_is)
    (case a13 => k_is)
    (case l13 => k_is)
    (case c13 => k_is)
    (case k13 => k_is)
    (case a14 => k_is)
    (case l14 => k_is)
    (case c14 => k_is)
    (case k14 => k_is)
    (case a15 => k_is)
    (case l15 => k_is)
    (case c15 => k_is)
    (case k15 => k_is)
    (case a16 => k_is)
    (case l16 => k_is)
    (case c16 => k_is)
    (case k16 => k_is)
    (case a17 => k_is)
    (case l17 => k_is)
    (case c17 => k_is)
    (case k17 => k_is)
    (case a18 => k_is)
    (case l18 => k_is)
    (case c18 => k_is)
    (case k18 => k_is)
    (case a19 => k_is)
    (case l19 => k_is)
    (case c19 => k_is)
    (case k19 => k_is)
    (case a20 => k_is)
    (case l20 => k_is)
    (case c20 => k_is)
    (case k20 => k_is)
    (case a21 => k_is)
    (case l21 => k_is)
    (case c21 => k_is)
    (case k21 => k_is)
    (case a22 => k_is)
    (case l22 => k_is)
    (case c22 => k_is)
    (case k22 => k_is)
    (case a23 => k_is)
    (case l23 => k_is)
    (case c23 => k_is)
    (case k23 => k_is)
    (case aKeeper => k_is)
    (case pgKeeper => k_is)
    (case hdKeeper => k_is)
    (case poKeeper => k_is)
    (case saKeeper => k_is)
    (case mkKeeper => k_is)
    (case kcKeeper => k_is)
    (case nKeeper_plan => k_is)
    (case nKeeper_services => k_is)
    (case nKeeper_goals => k_is)
    (case nKeeper_rows => k_is)
    (case nKeeper_beats => k_is)
    (case aKeeper___init__ => k_is)
    (case iKeeper___init__ => k_is)
    (case lKeeper___init__ => k_is)
    (case cKeeper___init__ => k_is)
    (case kKeeper___init__ => k_is)
    (case aKeeper_tell => k_is)
    (case iKeeper_tell => k_is)
    (case lKeeper_tell => k_is)
    (case cKeeper_tell => k_is)
    (case kKeeper_tell => k_is)
    (case aKeeper_ask => k_is)
    (case iKeeper_ask => k_is)
    (case lKeeper_ask => k_is)
    (case cKeeper_ask => k_is)
    (case kKeeper_ask => k_is)
    (case aKeeper_due => k_is)
    (case iKeeper_due => k_is)
    (case lKeeper_due => k_is)
    (case cKeeper_due => k_is)
    (case kKeeper_due => k_is)
    (case aKeeper_fall => k_is)
    (case iKeeper_fall => k_is)
    (case lKeeper_fall => k_is)
    (case cKeeper_fall => k_is)
    (case kKeeper_fall => k_is)
    (case aKeeper_lacks => k_is)
    (case iKeeper_lacks => k_is)
    (case lKeeper_lacks => k_is)
    (case cKeeper_lacks => k_is)
    (case kKeeper_lacks => k_is)
    (case aKeeper_is_free => k_is)
    (case iKeeper_is_free => k_is)
    (case lKeeper_is_free => k_is)
    (case cKeeper_is_free => k_is)
    (case kKeeper_is_free => k_is)
    (case aKeeper_chosen => k_is)
    (case iKeeper_chosen => k_is)
    (case lKeeper_chosen => k_is)
    (case cKeeper_chosen => k_is)
    (case kKeeper_chosen => k_is)
    (case aKeeper_beat => k_is)
    (case iKeeper_beat => k_is)
    (case lKeeper_beat => k_is)
    (case cKeeper_beat => k_is)
    (case kKeeper_beat => k_is)
    (case aKeeper_log => k_is)
    (case iKeeper_log => k_is)
    (case lKeeper_log => k_is)
    (case cKeeper_log => k_is)
    (case kKeeper_log => k_is)
    (case aService => k_is)
    (case pgService => k_is)
    (case hdService => k_is)
    (case poService => k_is)
    (case saService => k_is)
    (case mkService => k_is)
    (case kcService => k_is)
    (case nService_plan => k_is)
    (case nService_word => k_is)
    (case nService_left => k_is)
    (case nService_falls => k_is)
    (case aService___init__ => k_is)
    (case iService___init__ => k_is)
    (case lService___init__ => k_is)
    (case cService___init__ => k_is)
    (case kService___init__ => k_is)
    (case aService_put => k_is)
    (case iService_put => k_is)
    (case lService_put => k_is)
    (case cService_put => k_is)
    (case kService_put => k_is)
    (case aService_count => k_is)
    (case iService_count => k_is)
    (case lService_count => k_is)
    (case cService_count => k_is)
    (case kService_count => k_is)
    (case aService_fall => k_is)
    (case iService_fall => k_is)
    (case lService_fall => k_is)
    (case cService_fall => k_is)
    (case kService_fall => k_is)
    (case qMOST_SERVICES => k_is)
    (case qMOST_BEATS => k_is)
    (case qBOUNDS => k_is)
    (case yBOUNDS => k_is)
    (case wBOUNDS => rfl)
    (case yBOUNDS_0 => k_is)
    (case wBOUNDS_0 => rfl)
    (case yBOUNDS_1 => k_is)
    (case wBOUNDS_1 => rfl)
    (case yBOUNDS_2 => k_is)
    (case wBOUNDS_2 => rfl)
    (case yBOUNDS_3 => k_is)
    (case wBOUNDS_3 => rfl)
    (case yBOUNDS_4 => k_is)
    (case wBOUNDS_4 => rfl)
    (case qMOST_WAIT => k_is)
    (case qOFF => k_is)
    (case qBEGINS => k_is)
    (case qUP => k_is)
    (case qENDS => k_is)
    (case qAGAIN => k_is)
    (case qGIVEN => k_is)
    (case qRUNNING => k_is)
    (case yRUNNING => k_is)
    (case wRUNNING => rfl)
    (case zlen => k_is)
    (case zrange => k_is)
    (case zsorted => k_is)
    (case zset => k_is)
    (case zisinstance => k_is)
    (case zenumerate => k_is)
    (case zlist => k_is)
    (case ztuple => k_is)
    (case zabs => k_is)
    (case zmin => k_is)
    (case zmax => k_is)
    (case zint => k_is)
    (case zstr => k_is)
    (case zbool => k_is)
    (case zdict => k_is)
    (case zall => k_is)
    (case zsum => k_is)
