import PyProof.Rows.All
import Wide.All
import OpenK.AllK
import Wide.FinOn
import HandS.ForMost
import HandS.Codes
import HandS.Evl
import HandS.IsInst
import HandS.SortInts
import HandS.TupAny
import HandS.TupMul
import HandS.Conv
import HandS.SetFor
import HandS.Style
import HandS.Strs
import HandS.Dict
import KE.GoesMore
import KE.GoesEnum
import PySem.Challenge.RW_keeprunning_k14_written_and_read
set_option Elab.async false
set_option linter.all false
set_option maxRecDepth 100000
set_option maxHeartbeats 2000000
/-! Rk: rules that the hand layer lacks: extend by any row, enumerate of a tuple, sets of ints. -/
namespace Rk
open PySem PySem.Spec PyProof.Rows L2
/-! ### extend by a list or a tuple -/
theorem ext_meets {l b : Addr} {mine its2 : Array Value} {n : Nat} {T : String} (hT : T = "list" ∨ T = "tuple") (hz : mine.size + its2.size ≤ sizeLine) :
    Meets (Builtin.«list.extend» ⟨[.ref l, .ref b], []⟩) fun _ R s => s.heap.get? l = some { cls := .type "list", data := .seq mine n } ∧ (∃ o n2, s.heap.get? b = some o ∧ o.cls = .type T ∧ o.data = .seq its2 n2) ∧
      R (.ok (.ret .none)) { s with heap := s.heap.update l (Obj.mapSeq fun x => x ++ its2) } := fun prog w A R s h => by
  obtain ⟨hl, ⟨o, n2, ho, hc, hd⟩, h⟩ := h
  show wpAny _ A.in1 (Builtin.List.listExtendWith (.ref l) (.ref b) .none) _ _ s
  unfold Builtin.List.listExtendWith
  refine wpAny_bind (wpAny_typeOf ⟨o, ho, hc⟩ ?_)
  have seqT : (Builtin.List.listSameRef (.ref l) (.ref b) || Value.type T == Value.type "list" || Value.type T == Value.type "tuple") = true := by
    rcases hT with rfl | rfl
    · simp
    · simp
  simp only [seqT, if_true]
  refine wpAny_bind ?_
  unfold Builtin.List.listItems
  refine wpAny_bind (wpAny_seqItems ho hd (wpAny_pure ?_))
  refine wpAny_bind ?_
  refine wpAny_bind (wpAny_seqItems hl rfl (wpAny_pure ?_))
  have notLong : (!mine.isEmpty && Builtin.List.listTooLong (mine.size + its2.size)) = false := by
    rw [notLongL hz, Bool.and_false]
  simp only [notLong, Bool.false_eq_true, if_false]
  first
  | (refine wpAny_bind (wpAny_pure ?_)
     show wpAny _ A.in1 (updateSeq l (· ++ its2) >>= fun _ => ret Value.none) _ _ s
     exact wpAny_bind (wpAny_updateSeq hl rfl (wpAny_pure h)))
  | (show wpAny _ A.in1 (updateSeq l (· ++ its2) >>= fun _ => ret Value.none) _ _ s
     exact wpAny_bind (wpAny_updateSeq hl rfl (wpAny_pure h) (by omega) (by rw [Array.size_append]; omega)))
def rExtendA (K : PySem.W.Frag) : V → List V → Hp → VK → Prop := fun x vs H Q => ∃ l b xs zs, x = .ref l ∧ vs = [.ref b] ∧ H l = some (.lst xs) ∧ (SqL K H b zs ∨ SqT K H b zs) ∧ xs.length + zs.length ≤ sizeLine ∧ Q .non (upd H l (.lst (xs ++ zs)))
theorem mt_extendA {X : Cx} : MtM X "list.extend" (rExtendA X.K) := by
  intro pins s σ H x vs v us Q I rx rv h
  obtain ⟨l, b, xs, zs, rfl, rfl, hH, hB, hz, q⟩ := h
  cases rx
  obtain ⟨u, rfl, ru⟩ := rv.one
  cases ru
  obtain ⟨z, its, n, r, hl, e⟩ := I.lstM hH
  obtain ⟨T, hT, its2, o, n2, r2, ho, hc, hd⟩ : ∃ T, (T = "list" ∨ T = "tuple") ∧ ∃ (its2 : List Value) (o : Obj) (n2 : Nat), Vals zs its2 ∧ s.heap.get? b = some o ∧ o.cls = .type T ∧ o.data = .seq its2.toArray n2 := by
    rcases hB with hB | hB
    · obtain ⟨its2, r2, ⟨o, n2, ho, hc, _, hd⟩, _⟩ := I.list hB
      exact ⟨"list", .inl rfl, its2, o, n2, r2, ho, hc, hd⟩
    · obtain ⟨its2, r2, ⟨o, ho, hc, n2, hd⟩, _⟩ := I.tuple hB
      exact ⟨"tuple", .inr rfl, its2, o, n2, r2, ho, hc, hd⟩
  have l2 := r2.length
  have hsz : its.toArray.size + its2.toArray.size ≤ sizeLine := by rw [List.size_toArray, List.size_toArray]; omega
  refine call_meets F.slot_list_extend ⟨_, e, rfl⟩ F.entry_list_extend (F.args_list_extend_2 _ _) (ext_meets hT hsz) ⟨e, ⟨o, n2, ho, hc, hd⟩, ?_⟩
  refine ⟨.non, _, I.lset (its' := its ++ its2) hH e (by simp) (r.append r2) (by rw [List.length_append]; omega), rfl, q⟩

/-! ### enumerate of a tuple -/
set_option maxHeartbeats 4000000 in
theorem enumNew_meets {v : Value} {o : Obj} {Hh : Heap → Prop} (B : Begins v o Hh) :
    Meets (Builtin.«enumerate.__new__» ⟨[.type "enumerate", v], []⟩) fun _ R s => Hh s.heap ∧
      R (.ok (.ret (.ref (s.heap.push o).objs.size))) { s with heap := (s.heap.push o).push { cls := .type "enumerate", data := .fields #[.none, .bool false, .ref s.heap.objs.size, rawInt 0, .none, .none] } } :=
  .of_wp fun prog w A R s h => by
    obtain ⟨hp, gs, dr, tk, os⟩ := s
    obtain ⟨h1, h⟩ := h
    have hsub := sub_enumerate
    have itr : ∀ {A' : Around} {E : Value → Shared → Prop} {Q : Value → Shared → Prop}, Q (.ref hp.objs.size) ⟨hp.push o, gs, dr, tk, os⟩ → wpAny (model prog w) A' (pyIter v) Q E ⟨hp, gs, dr, tk, os⟩ := fun q => B.iter prog w _ _ ⟨hp, gs, dr, tk, os⟩ _ h1 q
    wp_walk using itr
    refine wpAny_stack_any fun st => wpAny_pure ?_
    split
    · rename_i c _ _ _ _ _
      cases (c == Value.type "enumerate") <;> (wp_walk using itr; exact ⟨_, rfl, h⟩)
    · wp_walk using itr
      exact ⟨_, rfl, h⟩
section
variable {prog : Program} {w : World} {A : Around} {E : Value → Shared → Prop} {s : Shared}
theorem call_enumB {v : Value} {o : Obj} {Hh : Heap → Prop} {Q : Value → Shared → Prop} (B : Begins v o Hh) (h1 : Hh s.heap)
    (h : ∀ h', IsEnum h' (s.heap.objs.size + 1) s.heap.objs.size 0 .none → h'.get? s.heap.objs.size = some o → (∀ b u, s.heap.get? b = some u → h'.get? b = some u) → Q (.ref (s.heap.objs.size + 1)) { s with heap := h' }) :
    wpAny (model prog w) A (call (.type "enumerate") [v]) Q E s := by
  have hz : (s.heap.push o).objs.size = s.heap.objs.size + 1 := Heap.size_push ..
  refine callType_new F.called_enumerate (by decide) (F.typeCall_enumerate_1 _) (F.newCall_enumerate_1 _) (fun obj => F.args_object_init_2 obj _) F.entry_enumerate_new (enumNew_meets B) ⟨h1, ?_⟩
  show _ ∧ _
  rw [hz]
  have made : IsEnum ((s.heap.push o).push { cls := .type "enumerate", data := .fields #[.none, .bool false, .ref s.heap.objs.size, rawInt 0, .none, .none] }) (s.heap.objs.size + 1) s.heap.objs.size 0 .none := by
    have q := Heap.get?_push_size (s.heap.push o) (o := { cls := .type "enumerate", data := .fields #[.none, .bool false, .ref s.heap.objs.size, rawInt 0, .none, .none] }) rfl
    rw [hz] at q
    exact q
  exact ⟨⟨_, made, rfl⟩, h _ made (Heap.get?_push_of_some _ (Heap.get?_push_size _ B.free)) fun b u x => Heap.get?_push_of_some _ (Heap.get?_push_of_some _ x)⟩
end
/-- the tuple at a, its items in new pairs with their places -/
def IteT (K : PySem.W.Frag) (a : Addr) : It :=
  ⟨fun i H => ∃ (xs : List V) (x : V), SqT K H a xs ∧ xs[i]? = some x, fun i H v H' => ∃ T x, v = .ref T ∧ H T = none ∧ H' = upd H T (.tup [.int (i : Nat), x]) ∧ ∀ xs, SqT K H a xs → xs[i]? = some x, fun i H => ∃ xs : List V, SqT K H a xs ∧ xs.length ≤ i⟩
theorem turn_enumT {P : Program} {w : World} {K : PySem.W.Frag} {elts : List Expr} {kk : Nat} {tpos : Pos} (a e it : Addr) :
    Turn P w K (.Tuple elts kk tpos) (IteT K a) [e, it] e fun i h => (∃ old, IsEnum h e it ((i : Nat) : Int) old) ∧ h.IsTupleIter it a i ∧ e ≠ it ∧ a ≠ it ∧ a ≠ e where
  mem := by simp
  obj := fun i h st b hb => by
    obtain ⟨⟨old, he⟩, ⟨o, ho, hc, hd⟩, _⟩ := st
    have e' : b = e ∨ b = it := by simpa using hb
    rcases e' with z | z
    · rw [z]; exact ⟨_, he, fun v q => nomatch q⟩
    · rw [z]; exact ⟨o, ho, fun v q => by rw [hd] at q; cases q⟩
  keep := fun i h h' st k => by
    obtain ⟨⟨old, he⟩, hi, hne⟩ := st
    exact ⟨⟨old, k e (by simp) _ he⟩, hi.at fun o q => k it (by simp) o q, hne⟩
  item := by
    intro X hP hw hK hc i pins s σ H E I hf st hg
    subst hP hw hK
    obtain ⟨⟨old, he⟩, hit, hne, hai, hae⟩ := st
    obtain ⟨xs, x, hq, hx⟩ := hg
    obtain ⟨its, rv, p, hz⟩ := I.tuple hq
    obtain ⟨u, hu, ru⟩ := rv.get hx
    have hel : e < s.heap.objs.size := Heap.lt_size he
    have hil : it < s.heap.objs.size := by
      obtain ⟨_, q, _⟩ := hit
      exact Heap.lt_size q
    have ht : s.heap.IsTuple a its.toArray := p
    have hlt : i < its.toArray.size := by
      have q := (List.getElem?_eq_some_iff.mp hu).1
      rw [List.size_toArray]
      exact q
    have hh : X.A.in1.handled = none := I.ok.hd hc
    have D := Draws.tuple (prog := X.prog) (w := X.w) (A := X.A.in1) hh it a hai its.toArray
    refine wpAny_pyNext_enum_itemD D he ⟨hit, ht⟩ hlt hne (by simp only [List.mem_cons, List.not_mem_nil, or_false, not_or]; exact ⟨hne, Ne.symm hae⟩) fun x' h' tk hPx ho st' hT hsz hk => ?_
    have ex : x' = u := by
      have q : its.toArray[i]? = some x' := hPx
      rw [List.getElem?_toArray, hu] at q
      exact (Option.some.inj q).symm
    subst ex
    refine ⟨_, rfl, wpAny_letOwnedTupleGo_enum (s := { s with heap := h', toks := tk + 1 }) ho fun h'' he' sb => ?_⟩
    have hT2 : h''.get? s.heap.objs.size = some { cls := .type "tuple", data := .seq #[.int i tk, x'] } := (sb.2 _ (Nat.ne_of_gt hel)).trans hT
    have made : ObjOk X.prog X.w (upd H s.heap.objs.size (.tup [.int (i : Nat), x])) h'' s.heap.objs.size (.tup [.int (i : Nat), x]) :=
      ⟨by show 2 ≤ sizeLine; decide, [.int i tk, x'], .cons ⟨_, rfl⟩ (.cons ru .nil), ⟨_, hT2, rfl, _, rfl⟩⟩
    have I1 : Inv X pins σ (upd H s.heap.objs.size (.tup [.int (i : Nat), x])) { s with heap := h'', toks := tk + 1 } :=
      I.turnedNew (ch := [e, it]) (fun b ob hb q => (sb.2 b fun z => hb (by simp [z])).trans (hk b ob (fun z => hb (by simp [z])) (fun z => hb (by simp [z])) q)) hf (Nat.le_refl _) made
    refine ⟨.ref s.heap.objs.size, _, I1, rfl, ⟨_, x, rfl, I.hok.fresh (Nat.le_refl _), rfl, fun ys hy => by rw [I.tuple_inj hy hq]; exact hx⟩, ⟨⟨x', ?_⟩, st'.1.at fun o q => (sb.2 it (Ne.symm hne)).trans q, hne, hai, hae⟩, fun b hb => ?_⟩
    · have e1 : ((i + 1 : Nat) : Int) = (i : Int) + 1 := by omega
      rw [e1]
      exact he'
    · have e' : b = e ∨ b = it := by simpa using hb
      have hb' : b < s.heap.objs.size := by
        rcases e' with z | z
        · rw [z]; exact hel
        · rw [z]; exact hil
      rw [upd_ne (Nat.ne_of_lt hb')]
      exact (hf b hb).1
  done := by
    intro X hP hw hK hc i pins s σ H E I hf st hg
    subst hP hw hK
    obtain ⟨⟨old, he⟩, hit, hne, hai, hae⟩ := st
    obtain ⟨xs, hq, hx⟩ := hg
    obtain ⟨its, rv, p, hz⟩ := I.tuple hq
    obtain ⟨f0, f1, f2, f3, f4, f5⟩ := hf it (by simp)
    have hl := rv.length
    have ht : s.heap.IsTuple a its.toArray := p
    have hh : X.A.in1.handled = none := I.ok.hd hc
    have hT : s.TypeIs (.ref e) "enumerate" := ⟨_, he, rfl⟩
    unfold pyNext
    refine wpAny_bind (wpAny_attempt (wpAny_callSpecial?_slot (name := Str.ofString "__next__") hT F.slot_enumerate_next (wpAny_call_entry F.slot_enumerate_next hT F.entry_enumerate_next ?_ (F.args_enumerate_next_1 _))))
    show wpAny _ _ (field (.ref e) 2 >>= _) _ _ _
    refine wpAny_bind (wpAny_field he rfl (x := .ref it) rfl ?_)
    refine wpAny_bind (wpAny_nextOf_tuple_end (items := its.toArray) hh hit ht (by rw [List.getElem?_toArray]; exact List.getElem?_eq_none (by omega)) fun h' x he' hx' => ?_)
    obtain ⟨o, ho, hcl⟩ := hx'
    refine wpAny_bind (wpAny_isInstance (T := "StopIteration") (b := true) ⟨o, ho, hcl⟩ isSubtype_stop ?_)
    exact wpAny_pure ⟨rfl, I.turned (t' := s.toks) (fun b o hb q => he' b o hb q) f0 f1 f3 f4 f5⟩
  self := fun A i s Q E st h => by
    obtain ⟨⟨_, he⟩, _⟩ := st
    exact wpAny_pyIter_enum he h
def iEnumT (K : PySem.W.Frag) (ta : TA) : TI := fun σ H R => ta σ H fun vs H1 => ∃ a xs, vs = [.ref a] ∧ SqT K H1 a xs ∧ R (IteT K a) H1
theorem pi_enumT {X : Cx} {e : Expr} {ta : TA} {p pos tpos : Pos} {elts : List Expr} {kk : Nat} (hg : Gl X "enumerate") (hm : X.mg "enumerate" = none) (ha : PA X [e] ta) (hs : starEach [e] X.env = [(false, eval e X.env)] := by rfl) :
    PI X (.Tuple elts kk tpos) (.Call (.Name "enumerate" p) [e] [] pos) (iEnumT X.K ta) := by
  refine ⟨fun pins s σ H R I h => ?_⟩
  refine Call_ (ld_blt I hg hm boot_enumerate (PyProof.Rows.callWith_type1 (thn (ha.run pos pins s σ H _ I h) fun us s1 ⟨vs, H1, I1, r1, q1⟩ => ?_) hs rfl))
  obtain ⟨a, xs, ex, hq, q⟩ := q1
  subst ex
  cases r1 with
  | cons r rr =>
    cases rr
    cases r
    obtain ⟨its, rv, p', hz⟩ := I1.tuple hq
    have ht : s1.heap.IsTuple a its.toArray := p'
    have hal : a < s1.heap.objs.size := by
      obtain ⟨o, ho, _⟩ := p'
      exact Heap.lt_size ho
    refine call_enumB (begins_tuple a its.toArray) ht fun h' he hit hk => wpAny_pyIter_enum he ?_
    have I2 : Inv X pins σ H1 { s1 with heap := h' } := I1.kept (t' := s1.toks) hk
    refine ⟨s1.heap.objs.size + 1, [s1.heap.objs.size + 1, s1.heap.objs.size], _, _, H1, rfl, I2, turn_enumT a (s1.heap.objs.size + 1) s1.heap.objs.size, ⟨⟨.none, he⟩, ⟨_, hit, rfl, rfl⟩, Nat.succ_ne_self _, Nat.ne_of_lt hal, Nat.ne_of_lt (Nat.lt_succ_of_lt hal)⟩, fun b hb => ?_, q⟩
    have e' : b = s1.heap.objs.size + 1 ∨ b = s1.heap.objs.size := by simpa using hb
    have hle : s1.heap.objs.size ≤ b := by
      rcases e' with z | z
      · rw [z]; exact Nat.le_add_right _ _
      · rw [z]; exact Nat.le_refl _
    exact I1.fpOk hle (I1.hok.fresh hle)
end Rk

/-! Rk2: set(..) of a list or a tuple of ints, as a value. -/
namespace Rk
open PySem PySem.Spec PyProof.Rows L2
/-- a set that was just made -/
abbrev mtSet (w : World) : Obj := { cls := .type "set", dict := none, data := .set #[] 0 (.fresh 0 0 (!w.params.followText "set-order")) }
section
variable {P : Program} {w : World} {A : Around} {E : Value → Shared → Prop} {s : Shared}
set_option maxHeartbeats 6400000 in
theorem set_of_list {l : Addr} {items : Array Value} (ns : List Int) {Q : Value → Shared → Prop} (hh : A.handled = none) (hl : s.heap.IsList l items) (hin : IntsAre items.toList ns) (few : ns.length + 1 < scanBound)
    (h : ∀ (h' : Heap) (tk c : Nat), SetR w h' s.heap.objs.size (fun j => decide (j ∈ ns)) c → c ≤ ns.length → (∀ b o, s.heap.get? b = some o → h'.get? b = some o) → Q (.ref s.heap.objs.size) { s with heap := h', toks := tk }) :
    wpAny (model P w) A (call (.type "set") [.ref l]) Q E s := by
  have size : items.size = ns.length := by
    have q := IntsAre.length hin
    rwa [Array.length_toList] at q
  obtain ⟨c, tl, hmro⟩ := F.called_set.mro
  have facts := And.intro F.called_set.made (And.intro F.called_set.sub (And.intro F.called_set.notType F.called_set.canCreate))
  obtain ⟨hmade, hsub, h1, h2⟩ := facts
  refine wpAny_call (codeAny_of_tree ?_)
  show wpAny _ _ (callAny (.type "set") _) _ _ _
  refine wpAny_pure ⟨Code.quiet_builtin _ (by decide +kernel), codeAny_builtin F.entry_type_call ?_⟩
  rw [Around.under_plain (weight_type_call_type "set" [.ref l] []) rfl]
  have hct := F.typeCall_set_1 (.ref l)
  repeat (any_goals (first | assumption | wp_step))
  refine codeAny_mono (code_set_led1 (.ref l) (E := E) (Q₁ := fun obj t => obj = .ref s.heap.objs.size ∧ t = { s with heap := s.heap.push (mtSet w) }) ⟨rfl, rfl⟩) fun r t hr => ?_
  cases r with
  | error e => exact hr
  | ok fl =>
    cases fl with
    | ret obj =>
      obtain ⟨rfl, rfl⟩ := hr
      have made : (s.heap.push (mtSet w)).get? s.heap.objs.size = some (mtSet w) := Heap.get?_push_size _ rfl
      have isSet : Shared.TypeIs { s with heap := s.heap.push (mtSet w) } (.ref s.heap.objs.size) "set" := ⟨_, made, rfl⟩
      have hli := F.called_set.init.lookup
      have hbi := F.called_set.init.bind (.ref s.heap.objs.size)
      repeat (any_goals (first | assumption | wp_step))
      refine codeAny_mono (codeAny_call_builtin (R := wants (fun r t => r = .none ∧ ∃ h' tk c, t = { s with heap := h', toks := tk } ∧ SetR w h' s.heap.objs.size (fun j => decide (j ∈ ns)) c ∧ c ≤ ns.length ∧ ∀ b o, s.heap.get? b = some o → h'.get? b = some o) E)
        F.called_set.init.plain F.entry_set_init (check_set_init_1 isSet ?_)) fun r2 t2 hr2 => ?_
      · obtain ⟨⟨ocls, odict, odata, oslots⟩, hol, hcl, nl, hdl⟩ := hl
        simp only at hcl hdl
        subst hcl
        subst hdl
        have hol' : (s.heap.push (mtSet w)).get? l = some { cls := .type "list", dict := odict, data := .seq items nl, slots := oslots } := Heap.get?_push_of_some _ hol
        have noSet := F.sub_list_set
        have noFrz := F.sub_list_frozenset
        have noDict : (Value.type "list" == Value.type "dict") = false := by decide
        have stays : (s.heap.push (mtSet w)).IsList l items := ⟨_, hol', rfl, nl, rfl⟩
        unfold Builtin.«set.__init__» noKeywords Builtin.Frozenset.updateFrom
        generalize hPI : pyIter = PI
        wp_walk
        subst hPI
        refine wpAny_pyIter_list stays ?_
        refine wpAny_bind (wpAny_runValue ?_)
        have lS : l < s.heap.objs.size := Heap.lt_size hol
        have h3 : A.in1.in1.in1.handled = none := by simp [hh]
        have sz : (s.heap.push (mtSet w)).objs.size = s.heap.objs.size + 1 := Heap.size_push ..
        have notIt : l ≠ (s.heap.push (mtSet w)).objs.size := by
          rw [sz]
          exact Nat.ne_of_lt (Nat.lt_succ_of_lt lS)
        have apart : s.heap.objs.size ∉ [(s.heap.push (mtSet w)).objs.size, l] := by
          rw [sz]
          simp only [List.mem_cons, List.mem_singleton, List.not_mem_nil, or_false, not_or]
          exact ⟨Nat.ne_of_lt (Nat.lt_succ_self _), Nat.ne_of_gt lS⟩
        have vals : ∀ (i : Nat) (v : Value), items[i]? = some v → ∃ k t, ns[i]? = some k ∧ v = .int k t := fun i v hv => by
          have hi : i < ns.length := by
            rw [← size]
            exact (Array.getElem?_eq_some_iff.mp hv).1
          obtain ⟨t, e⟩ := PyProof.Rows.IntsAre.int_at hin i v (by rw [Array.getElem?_toList]; exact hv)
          refine ⟨ns[i], t, List.getElem?_eq_getElem hi, ?_⟩
          rw [e, List.getD_eq_getElem?_getD, List.getElem?_eq_getElem hi] <;> rfl
        refine set_update_ints ((Walks.list h3 _ l notIt items).toS) s.heap.objs.size apart ns size few vals (items.size - 0) 0 _ (by omega) (Nat.zero_le _) ⟨⟨_, Heap.get?_push_size _ rfl, rfl, rfl⟩, stays.push _⟩ ?first ?last
        case first => exact ⟨0, Nat.le_refl 0, setR_new_at (Heap.get?_push_of_some _ made)⟩
        case last =>
          intro t c' hm hc' hS'
          obtain ⟨h', g2, d', tk', os'⟩ := t
          have eg : g2 = s.gens := hm.gens
          have ed : d' = s.drawn := hm.drawn
          have eo : os' = s.os := hm.os
          subst eg
          subst ed
          subst eo
          show wpAny _ _ _ _ _ _
          refine wpAny_pure ?_
          show wpAny _ _ (ret Value.none) _ _ _
          rw [size] at hc'
          refine wpAny_pure ⟨rfl, h', tk', c', rfl, hS', hc', fun b o e => ?_⟩
          have b0 : b < s.heap.objs.size := Heap.lt_size e
          refine hm.heap b o ?_ (Heap.get?_push_of_some _ (Heap.get?_push_of_some _ e))
          simp only [List.mem_cons, List.mem_singleton, List.not_mem_nil, or_false, not_or]
          exact ⟨Nat.ne_of_lt b0, by rw [sz]; exact Nat.ne_of_lt (Nat.lt_succ_of_lt b0)⟩
      · cases r2 with
        | error e => exact hr2
        | ok fl2 =>
          cases fl2 with
          | ret r =>
            obtain ⟨rfl, h', tk, c', rfl, hS', hc', hk'⟩ := hr2
            repeat (any_goals (first | assumption | wp_step))
            exact h _ _ _ hS' hc' hk'
          | _ => exact hr2.elim
    | _ => exact hr.elim
end
/-- set(xs) of ints -/
def rSetI (K : PySem.W.Frag) (w : World) : List V → Hp → VK → Prop := fun xs H Q => ∃ (p : Addr) (ns : List Int), xs = [.ref p] ∧ (SqL K H p (ns.map V.int) ∨ SqT K H p (ns.map V.int)) ∧ ns.length ≤ 1000 ∧ ∀ (q : Addr) (n : Nat), H q = none → n ≤ ns.length → Q (.ref q) (upd H q (SetO w q (fun j => decide (j ∈ ns)) n))
theorem cr_setI {X : Cx} (hc : X.calm = true) : CallR X (.type "set") (rSetI X.K X.w) := by
  intro pins s σ H xs us Q I r h
  obtain ⟨p, ns, rfl, hq, hl, q⟩ := h
  rw [Vals.ref1 r]
  have few : ns.length + 1 < scanBound := by unfold scanBound; omega
  have fin : ∀ (h' : Heap) (tk c : Nat), SetR X.w h' s.heap.objs.size (fun j => decide (j ∈ ns)) c → c ≤ ns.length → (∀ b o, s.heap.get? b = some o → h'.get? b = some o) → EP X pins σ Q (.ref s.heap.objs.size) { s with heap := h', toks := tk } := fun h' tk c R hcn k =>
    ⟨.ref _, upd H s.heap.objs.size (SetO X.w s.heap.objs.size (fun j => decide (j ∈ ns)) c), I.laid (t' := tk) k (Nat.le_refl _) (setO_new R), rfl, q _ c (I.hok.fresh (Nat.le_refl _)) hcn⟩
  rcases hq with hq | hq
  · obtain ⟨its, rv, pl, hz⟩ := I.list hq
    exact set_of_list ns (I.ok.hd hc) pl.isList (by rw [List.toList_toArray]; exact ints_of_vals rv) few fin
  · obtain ⟨its, rv, pt, hz⟩ := I.tuple hq
    exact call_set_tupI ns (I.ok.hd hc) (show s.heap.IsTuple p its.toArray from pt) (by rw [List.toList_toArray]; exact ints_of_vals rv) few fin
end Rk

/-! Rk3: xs + ys of any two lists that are read. -/
namespace Rk
open PySem PySem.Spec PyProof.Rows L2
open MeetsSeq in
theorem cat_meets {l b : Addr} {its its2 : Array Value} {n n2 : Nat} {d d2 : Option Addr} {z z2 : Array (Option Value)} (hz : its.size + its2.size ≤ sizeLine) :
    Meets (Builtin.«list.__add__» ⟨[.ref l, .ref b], []⟩) fun _ R s => s.heap.get? l = some { cls := .type "list", dict := d, data := .seq its n, slots := z } ∧ s.heap.get? b = some { cls := .type "list", dict := d2, data := .seq its2 n2, slots := z2 } ∧
      R (.ok (.ret (.ref s.heap.objs.size))) { s with heap := s.heap.push { cls := .type "list", data := .seq (its ++ its2) } } :=
  .of_wp fun prog w A R s h => by
    obtain ⟨hp, gs, dr, tk, os⟩ := s
    obtain ⟨hl, hb, h⟩ := h
    have sub1 := sub_list_list
    wp_walk using wpAny_loadPart' hl, wpAny_loadPart' hb
    exact ⟨_, rfl, h⟩
def rCatS (K : PySem.W.Frag) : R2 := fun x y H Q => ∃ l b xs zs, x = .ref l ∧ y = .ref b ∧ SqL K H l xs ∧ SqL K H b zs ∧ xs.length + zs.length ≤ sizeLine ∧ ∀ p, H p = none → Q (.ref p) (upd H p (.lst (xs ++ zs)))
theorem op_catS {X : Cx} : OpR X (binaryOp .Add) (rCatS X.K) := by
  intro pins s σ H x y v u Q I rx ry h
  obtain ⟨l, b, xs, zs, rfl, rfl, hL, hB, hz, q⟩ := h
  cases rx
  cases ry
  obtain ⟨its, r, ⟨⟨c, d, dt, sl⟩, n, e, hc, _, hd⟩, _⟩ := I.list hL
  obtain ⟨its2, r2, ⟨⟨c2, d2, dt2, sl2⟩, n2, e2, hc2, _, hd2⟩, _⟩ := I.list hB
  simp only at hc hd hc2 hd2
  subst hc hd hc2 hd2
  have l1 := r.length
  have l2 := r2.length
  have fits : its.toArray.size + its2.toArray.size ≤ sizeLine := by rw [List.size_toArray, List.size_toArray]; omega
  refine concat_meets ⟨_, e, rfl⟩ ⟨_, e2, rfl⟩ noFill_list_add seq_list_add F.slot_list_add F.entry_list_add (F.args_list_add_2 _ _) (cat_meets fits) ⟨e, e2, ?_⟩
  have ea : its.toArray ++ its2.toArray = (its ++ its2).toArray := by simp
  rw [ea]
  exact ⟨.ref _, _, I.lnew (t' := s.toks) (r.append r2) (by rw [List.length_append]; omega), rfl, q _ I.fresh⟩
end Rk

/-! Rk4: rules whose reading names its frame outright, so that they stand inside a comprehension too. -/
namespace Kk
open PySem PySem.Spec PyProof.Rows L2
theorem hu {j : Nat} {A : Around} (hr : Room j A) : A.units + 1 < cLine := by
  have := hr.units
  omega
section
variable {X : Cx} {K : PySem.W.Frag} {w : World}
theorem ix_tup (h : X.K = K := by rfl) : IxR X (rIxT K) := h ▸ L2.ix_tup
theorem ix_list (h : X.K = K := by rfl) : IxR X (rIxL K) := h ▸ L2.ix_list
theorem ix_both (h : X.K = K := by rfl) : IxR X (fun x y H Q => rIxL K x y H Q ∨ rIxT K x y H Q) := by
  subst h
  intro ve sl pins s σ H x y v u Q I rx ry q hs
  rcases q with q | q
  · exact L2.ix_list ve sl pins s σ H x y v u Q I rx ry q hs
  · exact L2.ix_tup ve sl pins s σ H x y v u Q I rx ry q hs
theorem sl_list (h : X.K = K := by rfl) : SlR X (rSlL K) := h ▸ L2.sl_list
theorem sl_tupA (h : X.K = K := by rfl) : SlR X (rSlA K) := h ▸ L2.sl_tupA
theorem op_in_seq (h : X.K = K := by rfl) : OpR X (compareOp .In) (rIn K false) := h ▸ L2.op_in_seq
theorem op_notIn_seq (h : X.K = K := by rfl) : OpR X (compareOp .NotIn) (rIn K true) := h ▸ L2.op_notIn_seq
theorem op_eqD (a : X.A.units + 64 < cLine) (h : X.K = K := by rfl) : OpR X (compareOp .Eq) (rEqD K) := h ▸ L2.op_eqD a
theorem op_neD (a : X.A.units + 64 < cLine) (h : X.K = K := by rfl) : OpR X (compareOp .NotEq) (rNeD K) := h ▸ L2.op_neD a
theorem op_catA (h : X.K = K := by rfl) : OpR X (binaryOp .Add) (rCatA K) := h ▸ L2.op_catA
theorem op_repT (h : X.K = K := by rfl) : OpR X (binaryOp .Mult) (rRepT K) := h ▸ L2.op_repT
theorem op_catS (h : X.K = K := by rfl) : OpR X (binaryOp .Add) (Rk.rCatS K) := h ▸ Rk.op_catS
theorem call_isi (h : X.K = K := by rfl) : CallR X (.builtin "isinstance") (rIsi K) := h ▸ L2.call_isi
theorem call_len_seq (h : X.K = K := by rfl) : CallR X (.builtin "len") fun xs H Q => ∃ p ys, xs = [V.ref p] ∧ (SqL K H p ys ∨ SqT K H p ys) ∧ Q (V.int ↑ys.length) H := h ▸ L2.call_len_seq
theorem call_list_of (h : X.K = K := by rfl) : CallR X (.type "list") fun xs H Q => ∃ p ys, xs = [V.ref p] ∧ (SqL K H p ys ∨ SqT K H p ys) ∧ ∀ (l : Addr), H l = none → Q (V.ref l) (upd H l (HO.lst ys)) := h ▸ L2.call_list_of
theorem cr_sortedI (h : X.K = K := by rfl) : CallR X (.builtin "sorted") (rSortedI K) := h ▸ L2.cr_sortedI
theorem cr_max (a : X.calm = true) (h : X.K = K := by rfl) : CallR X (.builtin "max") (rMax K) := h ▸ L2.cr_max a
theorem cr_min (a : X.calm = true) (h : X.K = K := by rfl) : CallR X (.builtin "min") (rMin K) := h ▸ L2.cr_min a
theorem cr_sum (a : X.calm = true) (h : X.K = K := by rfl) : CallR X (.builtin "sum") (rSum K) := h ▸ L2.cr_sum a
theorem cr_all (a : X.calm = true) (h : X.K = K := by rfl) : CallR X (.builtin "all") (rAll K) := h ▸ L2.cr_all a
theorem cr_sortedSet (a : X.calm = true) (h : X.w = w := by rfl) : CallR X (.builtin "sorted") (rSortedSet w) := h ▸ L2.cr_sortedSet a
theorem cr_setI (a : X.calm = true) (h : X.K = K := by rfl) (hw : X.w = w := by rfl) : CallR X (.type "set") (Rk.rSetI K w) := by subst h; subst hw; exact Rk.cr_setI a
theorem mt_extendA (h : X.K = K := by rfl) : MtM X "list.extend" (Rk.rExtendA K) := h ▸ Rk.mt_extendA
theorem pi_list {tg l : Expr} {tl : TE} (a : PE X l tl) (h : X.K = K := by rfl) : PI X tg l (iList K tl) := h ▸ L2.pi_list a
theorem pi_tup {tg l : Expr} {tl : TE} (a : PE X l tl) (h : X.K = K := by rfl) : PI X tg l (iTup K tl) := h ▸ L2.pi_tup a
theorem pi_enum {e : Expr} {ta : TA} {p pos tpos : Pos} {elts : List Expr} {kk : Nat} (a : Gl X (Str.ofString "enumerate")) (b : X.mg (Str.ofString "enumerate") = none) (c : PA X [e] ta) (h : X.K = K := by rfl) (d : starEach [e] X.env = [(false, eval e X.env)] := by rfl) :
    PI X (.Tuple elts kk tpos) (.Call (.Name (Str.ofString "enumerate") p) [e] [] pos) (iEnum K ta) := h ▸ L2.pi_enum a b c d
theorem pi_enumT {e : Expr} {ta : TA} {p pos tpos : Pos} {elts : List Expr} {kk : Nat} (a : Gl X (Str.ofString "enumerate")) (b : X.mg (Str.ofString "enumerate") = none) (c : PA X [e] ta) (h : X.K = K := by rfl) (d : starEach [e] X.env = [(false, eval e X.env)] := by rfl) :
    PI X (.Tuple elts kk tpos) (.Call (.Name (Str.ofString "enumerate") p) [e] [] pos) (Rk.iEnumT K ta) := h ▸ Rk.pi_enumT a b c d
theorem pe_tupleOf {a : Expr} {ta : TE} {p pos : Pos} (g : Gl X (Str.ofString "tuple")) (b : X.mg (Str.ofString "tuple") = none) (c : PE X a ta) (h : X.K = K := by rfl) (d : starEach [a] X.env = (false, eval a X.env) :: starEach [] X.env := by rfl) :
    PE X (.Call (.Name (Str.ofString "tuple") p) [a] [] pos) (tThen ta (kTup K)) := h ▸ L2.pe_tupleOf g b c d
theorem pg_tup {pos : Pos} {es : List Expr} {k : Nat} {t : TGs} {n : Nat} (a : X.calm = true) (b : PGs X es t) (h : X.K = K := by rfl) (c : (assignEach es X.env).length = n := by rfl) (d : (assignEach es X.env).findIdx? (fun x => x.1) = none := by rfl) :
    PG X (.Tuple es k pos) (gTup K n t) := h ▸ L2.pg_tup a b c d
theorem pe_bm {o e : Expr} {es : List Expr} {to : TE} {t : TA} {name : Str} {apos cpos : Pos} {T id : String} {r : V → List V → Hp → VK → Prop} (h1 : PlainAttrs T) (h2 : Slot T name id) (h3 : typeOf (Value.builtin id) = pure (Value.type "method_descriptor")) (h4 : MtR X id r) (h5 : PE X o to) (h6 : PA X (e :: es) t)
    (h : X.K = K := by rfl)
    (a1 : attributeBase o name X.env (eval o X.env) = eval o X.env := by rfl)
    (a2 : ((((backTo cpos (starEach (e :: es) X.env)).all fun x => !x.fst) && (backToKw cpos (keywordEach [] X.env)).all fun x => x.fst.isSome) && decide (((e :: es).length + ([] : List Keyword).length + if ([] : List Keyword).isEmpty = true then 0 else 1) < 30)) = true := by rfl)
    (a3 : (apos.endLine == cpos.line) = true := by rfl) (a4 : starEach (e :: es) X.env = (false, eval e X.env) :: starEach es X.env := by rfl) (a5 : ((backTo cpos (starEach es X.env)).any fun x => x.fst) = false := by rfl) :
    PE X (.Call (.Attribute o name apos) (e :: es) [] cpos) (tBM K T r to t) := h ▸ L2.pe_bm h1 h2 h3 h4 h5 h6 a1 a2 a3 a4 a5
theorem pe_bm0 {o : Expr} {to : TE} {name : Str} {apos cpos : Pos} {T id : String} {r : V → List V → Hp → VK → Prop} (h1 : PlainAttrs T) (h2 : Slot T name id) (h3 : typeOf (Value.builtin id) = pure (Value.type "method_descriptor")) (h4 : MtR X id r) (h5 : PE X o to)
    (h : X.K = K := by rfl)
    (a1 : attributeBase o name X.env (eval o X.env) = eval o X.env := by rfl) (a3 : (apos.endLine == cpos.line) = true := by rfl) :
    PE X (.Call (.Attribute o name apos) [] [] cpos) (tBM0 K T r to) := h ▸ L2.pe_bm0 h1 h2 h3 h4 h5 a1 a3
end
end Kk

/-! Dl: data with ownership over the readings of HandS. -/
namespace Dl
open PySem PySem.Spec PyProof.Rows L2
open Evl (Ex)

section
variable {K : PySem.W.Frag} {H H' : Hp}
mutual
theorem dp_mono (e : Ex H H') : ∀ (d : PyData) (v : V), Dp K H v d → Dp K H' v d
  | .none, _, h => by cases h; exact .non
  | .bool b, _, h => by cases h; exact .bl b
  | .int i, _, h => by cases h; exact .int i
  | .str x, _, h => by cases h; exact .str x
  | .list ds, _, h => by
    cases h with
    | lst hs ha => exact .lst (Evl.ex_l e hs) (dpa_mono e ds _ ha)
  | .tuple ds, _, h => by
    cases h with
    | tup hs ha => exact .tup (Evl.ex_t e hs) (dpa_mono e ds _ ha)
  | .dict _, _, h => by cases h
theorem dpa_mono (e : Ex H H') : ∀ (ds : List PyData) (vs : List V), DpAll K H vs ds → DpAll K H' vs ds
  | [], _, h => by cases h; exact .nil
  | d :: ds, _, h => by
    cases h with
    | cons h1 h2 => exact .cons (dp_mono e d _ h1) (dpa_mono e ds _ h2)
end
theorem dpa_len : ∀ {vs : List V} {ds : List PyData}, DpAll K H vs ds → vs.length = ds.length
  | _, _, .nil => rfl
  | _, _, .cons _ t => by simp [dpa_len t]
theorem dpa_get : ∀ {vs : List V} {ds : List PyData} {i : Nat} {d : PyData}, DpAll K H vs ds → ds[i]? = some d → ∃ v, vs[i]? = some v ∧ Dp K H v d
  | _, _, _, _, .nil, e => by simp at e
  | _, _, 0, _, .cons r _, e => by simp at e; subst e; exact ⟨_, rfl, r⟩
  | _, _, i + 1, d, .cons _ t, e => by
    obtain ⟨u, h1, h2⟩ := dpa_get (i := i) (d := d) t (by simpa using e)
    exact ⟨u, by simpa using h1, h2⟩
theorem dpa_getv : ∀ {vs : List V} {ds : List PyData} {i : Nat} {v : V}, DpAll K H vs ds → vs[i]? = some v → ∃ d, ds[i]? = some d ∧ Dp K H v d
  | _, _, _, _, .nil, e => by simp at e
  | _, _, 0, _, .cons r _, e => by simp at e; subst e; exact ⟨_, rfl, r⟩
  | _, _, i + 1, v, .cons _ t, e => by
    obtain ⟨u, h1, h2⟩ := dpa_getv (i := i) (v := v) t (by simpa using e)
    exact ⟨u, by simpa using h1, h2⟩
theorem dpa_append : ∀ {xs ys : List V} {ds es : List PyData}, DpAll K H xs ds → DpAll K H ys es → DpAll K H (xs ++ ys) (ds ++ es)
  | _, _, _, _, .nil, s => s
  | _, _, _, _, .cons r t, s => .cons r (dpa_append t s)
theorem dpa_one {v : V} {d : PyData} (h : Dp K H v d) : DpAll K H [v] [d] := .cons h .nil
theorem dpa_take : ∀ {xs : List V} {ds : List PyData} (n : Nat), DpAll K H xs ds → DpAll K H (xs.take n) (ds.take n)
  | _, _, 0, _ => .nil
  | _, _, _ + 1, .nil => .nil
  | _, _, n + 1, .cons r t => .cons r (dpa_take n t)
theorem dpa_drop : ∀ {xs : List V} {ds : List PyData} (n : Nat), DpAll K H xs ds → DpAll K H (xs.drop n) (ds.drop n)
  | _, _, 0, r => r
  | _, _, _ + 1, .nil => .nil
  | _, _, n + 1, .cons _ t => dpa_drop n t
theorem dpa_set {v : V} {d : PyData} (r : Dp K H v d) : ∀ {xs : List V} {ds : List PyData} (i : Nat), DpAll K H xs ds → DpAll K H (xs.set i v) (ds.set i d)
  | _, _, _, .nil => .nil
  | _, _, 0, .cons _ t => .cons r t
  | _, _, i + 1, .cons q t => .cons q (dpa_set r i t)
theorem dpa_erase : ∀ {xs : List V} {ds : List PyData} (i : Nat), DpAll K H xs ds → DpAll K H (xs.eraseIdx i) (ds.eraseIdx i)
  | _, _, _, .nil => .nil
  | _, _, 0, .cons _ t => t
  | _, _, i + 1, .cons q t => .cons q (dpa_erase i t)
theorem dpa_rev {xs : List V} {ds : List PyData} (h : DpAll K H xs ds) : DpAll K H xs.reverse ds.reverse := by
  induction ds generalizing xs with
  | nil => cases h; exact .nil
  | cons d ds ih =>
    cases h with
    | cons r t =>
      rw [List.reverse_cons, List.reverse_cons]
      exact dpa_append (ih t) (dpa_one r)
theorem dpa_dropLast {xs : List V} {ds : List PyData} (h : DpAll K H xs ds) : DpAll K H xs.dropLast ds.dropLast := by
  rw [List.dropLast_eq_take, List.dropLast_eq_take, dpa_len h]
  exact dpa_take _ h
theorem dpa_ints : ∀ (ns : List Int), DpAll K H (ns.map V.int) (ns.map PyData.int)
  | [] => .nil
  | n :: r => .cons (.int n) (dpa_ints r)
theorem dpa_strs : ∀ (ns : List Str), DpAll K H (ns.map V.str) (ns.map PyData.str)
  | [] => .nil
  | n :: r => .cons (.str n) (dpa_strs r)
theorem dpa_ints_inv : ∀ {ns : List Int} {vs : List V}, DpAll K H vs (ns.map PyData.int) → vs = ns.map V.int
  | [], _, h => by cases h; rfl
  | n :: r, _, h => by
    cases h with
    | cons h1 h2 =>
      cases h1
      rw [dpa_ints_inv h2]
      rfl
theorem dpa_strs_inv : ∀ {ns : List Str} {vs : List V}, DpAll K H vs (ns.map PyData.str) → vs = ns.map V.str
  | [], _, h => by cases h; rfl
  | n :: r, _, h => by
    cases h with
    | cons h1 h2 =>
      cases h1
      rw [dpa_strs_inv h2]
      rfl
theorem dp_int_inv {v : V} {i : Int} (h : Dp K H v (.int i)) : v = .int i := by cases h; rfl
theorem dp_str_inv {v : V} {i : Str} (h : Dp K H v (.str i)) : v = .str i := by cases h; rfl
theorem dp_bl_inv {v : V} {i : Bool} (h : Dp K H v (.bool i)) : v = .bl i := by cases h; rfl
theorem dp_non_inv {v : V} (h : Dp K H v .none) : v = .non := by cases h; rfl
end

/-- flat data -/
def flatD : PyData → Bool
  | .none => true | .bool _ => true | .int _ => true | .str _ => true | _ => false
/-- the value of flat data -/
def valD : PyData → V
  | .none => .non | .bool b => .bl b | .int i => .int i | .str s => .str s | _ => .non
theorem flat_val {K : PySem.W.Frag} {H : Hp} {v : V} {d : PyData} (f : flatD d = true) (h : Dp K H v d) : v = valD d := by
  cases h <;> first | rfl | cases f
theorem dp_flat {K : PySem.W.Frag} {H : Hp} {d : PyData} (f : flatD d = true) : Dp K H (valD d) d := by
  cases d with
  | none => exact .non
  | bool b => exact .bl b
  | int i => exact .int i
  | str s => exact .str s
  | list _ => cases f
  | tuple _ => cases f
  | dict _ => cases f
theorem flat_flat {K : PySem.W.Frag} {H : Hp} {v : V} {d : PyData} (f : flatD d = true) (h : Dp K H v d) : flatV v = true := by
  cases h <;> first | rfl | cases f
theorem dp_any {K : PySem.W.Frag} {H H' : Hp} {v : V} {d : PyData} (f : flatD d = true) (h : Dp K H v d) : Dp K H' v d := by
  rw [flat_val f h]
  exact dp_flat f
theorem dpa_any {K : PySem.W.Frag} {H H' : Hp} : ∀ {vs : List V} {ds : List PyData}, ds.all flatD = true → DpAll K H vs ds → DpAll K H' vs ds
  | _, _, _, .nil => .nil
  | _, d :: ds, f, .cons r t => by
    rw [List.all_cons, Bool.and_eq_true] at f
    exact .cons (dp_any f.1 r) (dpa_any f.2 t)
theorem dpa_flat {K : PySem.W.Frag} {H : Hp} : ∀ {vs : List V} {ds : List PyData}, ds.all flatD = true → DpAll K H vs ds → vs.all flatV = true
  | _, _, _, .nil => rfl
  | _, d :: ds, f, .cons r t => by
    rw [List.all_cons, Bool.and_eq_true] at f
    rw [List.all_cons, flat_flat f.1 r, dpa_flat f.2 t]
    rfl

/-! ### owned things -/
structure Res where
  P : V → Hp → Hp → (Addr → Prop) → Prop
  loc : ∀ {v B H B' H' M}, P v B H M → Ex B B' → (∀ a, M a → H' a = H a) → P v B' H' M
  live : ∀ {v B H M}, P v B H M → ∀ a, M a → H a ≠ none
/-- a list of data, owned -/
def RL (K : PySem.W.Frag) (ds : List PyData) : Res where
  P v B H M := ∃ p xs, v = .ref p ∧ H p = some (.lst xs) ∧ DpAll K B xs ds ∧ ∀ a, M a ↔ a = p
  loc := by
    rintro v B H B' H' M ⟨p, xs, rfl, hp, hd, hM⟩ e k
    exact ⟨p, xs, rfl, by rw [k p ((hM p).mpr rfl)]; exact hp, dpa_mono e _ _ hd, hM⟩
  live := by
    rintro v B H M ⟨p, xs, rfl, hp, hd, hM⟩ a ha
    rw [(hM a).mp ha, hp]
    exact fun z => nomatch z
inductive Slot where
  | non | pu (d : PyData) | ow (R : Res) | al (i : Nat)

def SlotIn (K : PySem.W.Frag) (B H : Hp) (o : Option (Option V)) (M : Addr → Prop) : Slot → Prop
  | .non => ∀ a, ¬ M a
  | .pu d => ∃ v, o = some (some v) ∧ Dp K B v d ∧ ∀ a, ¬ M a
  | .ow R => ∃ v, o = some (some v) ∧ R.P v B H M ∧ ∀ a, M a → B a = none
  | .al _ => False
structure Sd (K : PySem.W.Frag) (B H : Hp) (σ : L2.St) (δ : List Slot) (F : Addr → Prop) : Prop where
  bh : Ex B H
  len : σ.length = δ.length
  fb : ∀ a, F a → B a = none
  fl : ∀ a, F a → H a ≠ none
  sl : ∃ ms : Nat → Addr → Prop, (∀ i s, δ[i]? = some s → SlotIn K B H σ[i]? (ms i) s) ∧ (∀ i j a, ms i a → ms j a → i = j) ∧ (∀ i a, ms i a → ¬ F a) ∧ ∀ i a, ms i a → i < δ.length
/-- things grow -/
structure Gr (B H B2 H2 : Hp) : Prop where
  b : Ex B B2
  h : Ex H H2
  bh : Ex B2 H2
  nw : ∀ a o, B2 a = some o → B a = some o ∨ H a = none
theorem Gr.refl {B H : Hp} (e : Ex B H) : Gr B H B H := ⟨Ex.refl _, Ex.refl _, e, fun _ _ h => .inl h⟩
theorem Gr.trans {B H B2 H2 B3 H3 : Hp} (x : Gr B H B2 H2) (y : Gr B2 H2 B3 H3) : Gr B H B3 H3 :=
  ⟨x.b.trans y.b, x.h.trans y.h, y.bh, fun a o h => (y.nw a o h).elim (x.nw a o) fun z => .inr (by
    cases q : H a with
    | none => rfl
    | some u => rw [x.h a u q] at z; cases z)⟩
theorem exnone {H H' : Hp} {a : Addr} (e : Ex H H') (h : H' a = none) : H a = none := by
  cases q : H a with
  | none => rfl
  | some u => rw [e a u q] at h; cases h
theorem some_of_ne {H : Hp} {a : Addr} (h : H a ≠ none) : ∃ o, H a = some o := by
  cases q : H a with
  | none => exact absurd q h
  | some u => exact ⟨u, rfl⟩
/-- a new object that stays as it is -/
theorem Gr.new {B H : Hp} {p : Addr} {o : HO} (e : Ex B H) (h : H p = none) : Gr B H (upd B p o) (upd H p o) := by
  have hb : B p = none := exnone e h
  refine ⟨Ex.new hb, Ex.new h, fun a u q => ?_, fun a u q => ?_⟩
  · by_cases ha : a = p
    · subst ha; rw [upd_same] at q ⊢; exact q
    · rw [upd_ne ha] at q ⊢; exact e a u q
  · by_cases ha : a = p
    · subst ha; exact .inr h
    · rw [upd_ne ha] at q; exact .inl q
/-- a new object, owned -/
theorem Gr.own {B H : Hp} {p : Addr} {o : HO} (e : Ex B H) (h : H p = none) : Gr B H B (upd H p o) :=
  ⟨Ex.refl _, Ex.new h, e.trans (Ex.new h), fun _ _ q => .inl q⟩
section
variable {K : PySem.W.Frag} {B H B2 H2 : Hp} {σ : L2.St} {δ : List Slot} {F M : Addr → Prop}
theorem grow_none (g : Gr B H B2 H2) {a : Addr} (hb : B a = none) (hh : H a ≠ none) : B2 a = none := by
  cases q : B2 a with
  | none => rfl
  | some o =>
    rcases g.nw a o q with z | z
    · rw [hb] at z; cases z
    · exact absurd z hh
theorem ex_eq {a : Addr} (e : Ex H H2) (hh : H a ≠ none) : H2 a = H a := by
  obtain ⟨o, ho⟩ := some_of_ne hh
  rw [ho]
  exact e a o ho
theorem Res.grow {R : Res} {v : V} (g : Gr B H B2 H2) (h : R.P v B H M) : R.P v B2 H2 M := R.loc h g.b fun a ha => ex_eq g.h (R.live h a ha)
theorem SlotIn.grow {o : Option (Option V)} {s : Slot} (g : Gr B H B2 H2) (h : SlotIn K B H o M s) : SlotIn K B2 H2 o M s := by
  cases s with
  | non => exact h
  | pu d => obtain ⟨v, e, hd, hM⟩ := h; exact ⟨v, e, dp_mono g.b _ _ hd, hM⟩
  | ow R => obtain ⟨v, e, hP, hb⟩ := h; exact ⟨v, e, R.grow g hP, fun a ha => grow_none g (hb a ha) (R.live hP a ha)⟩
  | al i => exact h
theorem Sd.grow (S : Sd K B H σ δ F) (g : Gr B H B2 H2) : Sd K B2 H2 σ δ F := by
  obtain ⟨ms, h1, h2, h3, h4⟩ := S.sl
  exact ⟨g.bh, S.len, fun a ha => grow_none g (S.fb a ha) (S.fl a ha), fun a ha => by rw [ex_eq g.h (S.fl a ha)]; exact S.fl a ha, ms, fun i s hs => (h1 i s hs).grow g, h2, h3, h4⟩
theorem Sd.less {F' : Addr → Prop} (S : Sd K B H σ δ F') (h : ∀ a, F a → F' a) : Sd K B H σ δ F := by
  obtain ⟨ms, h1, h2, h3, h4⟩ := S.sl
  exact ⟨S.bh, S.len, fun a ha => S.fb a (h a ha), fun a ha => S.fl a (h a ha), ms, h1, h2, fun i a q f => h3 i a q (h a f), h4⟩
theorem Sd.more (S : Sd K B H σ δ F) : Sd K B H σ δ fun a => F a ∨ False := S.less fun a h => h.elim id False.elim
theorem set_get_ne {α : Type} {l : List α} {i j : Nat} {x : α} (h : i ≠ j) : (l.set i x)[j]? = l[j]? := List.getElem?_set_ne h
def updM (ms : Nat → Addr → Prop) (i : Nat) (M : Addr → Prop) : Nat → Addr → Prop := fun j => if j = i then M else ms j
theorem updM_eq {ms : Nat → Addr → Prop} {i j : Nat} {M : Addr → Prop} (e : j = i) : updM ms i M j = M := if_pos e
theorem updM_ne {ms : Nat → Addr → Prop} {i j : Nat} {M : Addr → Prop} (e : ¬ j = i) : updM ms i M j = ms j := if_neg e
/-- a slot is put -/
theorem Sd.put {i : Nat} {x : Option V} {s : Slot} (S : Sd K B H σ δ F) (h : SlotIn K B H (some x) M s) (d : ∀ ms : Nat → Addr → Prop, (∀ i s, δ[i]? = some s → SlotIn K B H σ[i]? (ms i) s) → (∀ i a, ms i a → ¬ F a) → ∀ j a, M a → ms j a → j = i) (f : ∀ a, M a → ¬ F a) (hi : i < δ.length) :
    Sd K B H (σ.set i x) (δ.set i s) F := by
  obtain ⟨ms, h1, h2, h3, h4⟩ := S.sl
  refine ⟨S.bh, by simp [S.len], S.fb, S.fl, updM ms i M, fun j t ht => ?_, fun j k a hj hk => ?_, fun j a hj => ?_, fun j a hj => ?_⟩
  · by_cases e : j = i
    · subst e
      rw [List.getElem?_set_self hi] at ht
      cases ht
      rw [List.getElem?_set_self (by rw [S.len]; exact hi), updM_eq rfl]
      exact h
    · rw [List.getElem?_set_ne (Ne.symm e)] at ht ⊢
      rw [updM_ne e]
      exact h1 j t ht
  · by_cases e : j = i <;> by_cases e2 : k = i
    · rw [e, e2]
    · rw [updM_eq e] at hj
      rw [updM_ne e2] at hk
      exact absurd (d ms h1 h3 k a hj hk) e2
    · rw [updM_ne e] at hj
      rw [updM_eq e2] at hk
      exact absurd (d ms h1 h3 j a hk hj) e
    · rw [updM_ne e] at hj
      rw [updM_ne e2] at hk
      exact h2 j k a hj hk
  · by_cases e : j = i
    · rw [updM_eq e] at hj; exact f a hj
    · rw [updM_ne e] at hj; exact h3 j a hj
  · rw [List.length_set]
    by_cases e : j = i
    · rw [e]; exact hi
    · rw [updM_ne e] at hj; exact h4 j a hj
theorem Sd.put_pu {i : Nat} {v : V} {d : PyData} (S : Sd K B H σ δ F) (h : Dp K B v d) (hi : i < δ.length) : Sd K B H (σ.set i (some v)) (δ.set i (.pu d)) F :=
  S.put (M := fun _ => False) ⟨v, rfl, h, fun _ z => z⟩ (fun _ _ _ _ _ z => z.elim) (fun _ z => z.elim) hi
theorem Sd.put_non {i : Nat} {x : Option V} (S : Sd K B H σ δ F) (hi : i < δ.length) : Sd K B H (σ.set i x) (δ.set i .non) F :=
  S.put (M := fun _ => False) (fun _ z => z) (fun _ _ _ _ _ z => z.elim) (fun _ z => z.elim) hi
/-- a temporary's own is put into a slot -/
theorem Sd.put_ow {i : Nat} {v : V} {R : Res} (S : Sd K B H σ δ fun a => F a ∨ M a) (h : R.P v B H M) (f : ∀ a, M a → ¬ F a) (hi : i < δ.length) : Sd K B H (σ.set i (some v)) (δ.set i (.ow R)) F := by
  have S' : Sd K B H σ δ F := S.less fun a h => .inl h
  obtain ⟨ms, h1, h2, h3, h4⟩ := S.sl
  refine ⟨S'.bh, by simp [S'.len], S'.fb, S'.fl, updM ms i M, fun j t ht => ?_, fun j k a hj hk => ?_, fun j a hj => ?_, fun j a hj => ?_⟩
  · by_cases e : j = i
    · subst e
      rw [List.getElem?_set_self hi] at ht
      cases ht
      rw [List.getElem?_set_self (by rw [S'.len]; exact hi), updM_eq rfl]
      exact ⟨v, rfl, h, fun a ha => S.fb a (.inr ha)⟩
    · rw [List.getElem?_set_ne (Ne.symm e)] at ht ⊢
      rw [updM_ne e]
      exact h1 j t ht
  · by_cases e : j = i <;> by_cases e2 : k = i
    · rw [e, e2]
    · rw [updM_eq e] at hj
      rw [updM_ne e2] at hk
      exact absurd (.inr hj) (h3 k a hk)
    · rw [updM_ne e] at hj
      rw [updM_eq e2] at hk
      exact absurd (.inr hk) (h3 j a hj)
    · rw [updM_ne e] at hj
      rw [updM_ne e2] at hk
      exact h2 j k a hj hk
  · by_cases e : j = i
    · rw [updM_eq e] at hj; exact f a hj
    · rw [updM_ne e] at hj; exact fun z => h3 j a hj (.inl z)
  · rw [List.length_set]
    by_cases e : j = i
    · rw [e]; exact hi
    · rw [updM_ne e] at hj; exact h4 j a hj
/-- an owned slot is opened: what stands there, and how it may be changed -/
theorem Sd.opn {i : Nat} {R : Res} (S : Sd K B H σ δ F) (hi : δ[i]? = some (.ow R)) : ∃ v M, σ[i]? = some (some v) ∧ R.P v B H M ∧ (∀ a, M a → B a = none) ∧ (∀ a, M a → ¬ F a) ∧
    ∀ B2 H2 x s' M', Ex B B2 → Ex B2 H2 → (∀ a o, H a = some o → ¬ M a → H2 a = some o) → (∀ a o, B2 a = some o → B a = some o ∨ H a = none ∨ M a) → SlotIn K B2 H2 (some x) M' s' → (∀ a, M' a → M a ∨ H a = none) →
      Sd K B2 H2 (σ.set i x) (δ.set i s') F := by
  obtain ⟨ms, h1, h2, h3, h4⟩ := S.sl
  obtain ⟨v, ev, hP, hb⟩ := h1 i _ hi
  refine ⟨v, ms i, ev, hP, hb, h3 i, fun B2 H2 x s' M' e1 e2 k nw hs hM => ?_⟩
  have il : i < δ.length := (List.getElem?_eq_some_iff.mp hi).1
  have fb2 : ∀ a, B a = none → H a ≠ none → ¬ ms i a → B2 a = none := fun a b1 b2 b3 => by
    cases q : B2 a with
    | none => rfl
    | some o =>
      rcases nw a o q with z | z | z
      · rw [b1] at z; cases z
      · exact absurd z b2
      · exact absurd z b3
  have keep : ∀ a, H a ≠ none → ¬ ms i a → H2 a = H a := fun a ha hn => by
    obtain ⟨o, ho⟩ := some_of_ne ha
    rw [ho]
    exact k a o ho hn
  have nF : ∀ a, F a → ¬ ms i a := fun a f m => h3 i a m f
  refine ⟨e2, by simp [S.len], fun a ha => fb2 a (S.fb a ha) (S.fl a ha) (nF a ha), fun a ha => by rw [keep a (S.fl a ha) (nF a ha)]; exact S.fl a ha, updM ms i M', fun j t ht => ?_, fun j l a hj hl => ?_, fun j a hj => ?_, fun j a hj => ?_⟩
  · by_cases e : j = i
    · subst e
      rw [List.getElem?_set_self il] at ht
      cases ht
      rw [List.getElem?_set_self (by rw [S.len]; exact il), updM_eq rfl]
      exact hs
    · rw [List.getElem?_set_ne (Ne.symm e)] at ht ⊢
      rw [updM_ne e]
      have q := h1 j t ht
      cases t with
      | non => exact q
      | pu d => obtain ⟨u, e3, hd, hM⟩ := q; exact ⟨u, e3, dp_mono e1 _ _ hd, hM⟩
      | ow R' =>
        obtain ⟨u, e3, hP', hb'⟩ := q
        have nd : ∀ a, ms j a → ¬ ms i a := fun a p p' => e (h2 j i a p p')
        exact ⟨u, e3, R'.loc hP' e1 fun a ha => keep a (R'.live hP' a ha) (nd a ha), fun a ha => fb2 a (hb' a ha) (R'.live hP' a ha) (nd a ha)⟩
      | al _ => exact q
  · have lv : ∀ j a, ms j a → H a ≠ none := fun j a hj => by
      have hl := h4 j a hj
      obtain ⟨t, ht⟩ : ∃ t, δ[j]? = some t := ⟨δ[j], List.getElem?_eq_getElem hl⟩
      have q := h1 j t ht
      cases t with
      | non => exact absurd hj (q a)
      | pu d => obtain ⟨_, _, _, hM⟩ := q; exact absurd hj (hM a)
      | ow R' => obtain ⟨u, e3, hP', hb'⟩ := q; exact R'.live hP' a hj
      | al _ => exact q.elim
    by_cases e : j = i <;> by_cases e3 : l = i
    · rw [e, e3]
    · rw [updM_eq e] at hj
      rw [updM_ne e3] at hl
      rcases hM a hj with z | z
      · exact absurd (h2 l i a hl z) e3
      · exact absurd z (lv l a hl)
    · rw [updM_ne e] at hj
      rw [updM_eq e3] at hl
      rcases hM a hl with z | z
      · exact absurd (h2 j i a hj z) e
      · exact absurd z (lv j a hj)
    · rw [updM_ne e] at hj
      rw [updM_ne e3] at hl
      exact h2 j l a hj hl
  · by_cases e : j = i
    · rw [updM_eq e] at hj
      intro f
      rcases hM a hj with z | z
      · exact h3 i a z f
      · exact S.fl a f z
    · rw [updM_ne e] at hj; exact h3 j a hj
  · rw [List.length_set]
    by_cases e : j = i
    · rw [e]; exact il
    · rw [updM_ne e] at hj; exact h4 j a hj
theorem set_self {i : Nat} {x : Option V} (h : σ[i]? = some x) : σ.set i x = σ := by
  apply List.ext_getElem?
  intro j
  by_cases e : j = i
  · subst e
    rw [h, List.getElem?_set_self (List.getElem?_eq_some_iff.mp h).1]
  · rw [List.getElem?_set_ne (Ne.symm e)]
theorem Sd.pu {i : Nat} {d : PyData} (S : Sd K B H σ δ F) (hi : δ[i]? = some (.pu d)) : ∃ v, σ[i]? = some (some v) ∧ Dp K B v d := by
  obtain ⟨ms, h1, _⟩ := S.sl
  obtain ⟨v, e, hd, _⟩ := h1 i _ hi
  exact ⟨v, e, hd⟩
end

/-! ### values -/
def VOk (K : PySem.W.Frag) (σ : L2.St) (δ : List Slot) (B H : Hp) (v : V) (M : Addr → Prop) : Slot → Prop
  | .non => False
  | .pu d => Dp K B v d ∧ ∀ a, ¬ M a
  | .ow R => R.P v B H M
  | .al i => σ[i]? = some (some v) ∧ ∀ a, ¬ M a
/-- what a slot's value denotes as data now -/
def den (K : PySem.W.Frag) (δ : List Slot) (s : Slot) (d : PyData) : Prop :=
  s = .pu d ∨ ∃ ds, d = .list ds ∧ (s = .ow (RL K ds) ∨ ∃ i, s = .al i ∧ δ[i]? = some (.ow (RL K ds)))
/-- top level read now, contents fixed -/
def Dr (K : PySem.W.Frag) (B H : Hp) (v : V) (d : PyData) : Prop := Dp K B v d ∨ ∃ p xs ds, v = .ref p ∧ d = .list ds ∧ H p = some (.lst xs) ∧ DpAll K B xs ds
theorem Dr.dp {K : PySem.W.Frag} {B H : Hp} {v : V} {d : PyData} (e : Ex B H) (h : Dr K B H v d) : Dp K H v d := by
  rcases h with h | ⟨p, xs, ds, rfl, rfl, hp, ha⟩
  · exact dp_mono e _ _ h
  · exact .lst (SqL.of hp) (dpa_mono e _ _ ha)
theorem Dr.lst {K : PySem.W.Frag} {B H : Hp} {v : V} {ds : List PyData} (e : Ex B H) (h : Dr K B H v (.list ds)) : ∃ p xs, v = .ref p ∧ SqL K H p xs ∧ DpAll K B xs ds := by
  rcases h with h | ⟨p, xs, ds, rfl, e2, hp, ha⟩
  · cases h with
    | lst hs ha => exact ⟨_, _, rfl, Evl.ex_l e hs, ha⟩
  · cases e2
    exact ⟨p, xs, rfl, SqL.of hp, ha⟩
theorem Dr.tup {K : PySem.W.Frag} {B H : Hp} {v : V} {ds : List PyData} (e : Ex B H) (h : Dr K B H v (.tuple ds)) : ∃ p xs, v = .ref p ∧ SqT K H p xs ∧ DpAll K B xs ds := by
  rcases h with h | ⟨p, xs, ds, rfl, e2, hp, ha⟩
  · cases h with
    | tup hs ha => exact ⟨_, _, rfl, Evl.ex_t e hs, ha⟩
  · cases e2
theorem Dr.grow {K : PySem.W.Frag} {B H B2 H2 : Hp} {v : V} {d : PyData} (g : Gr B H B2 H2) (h : Dr K B H v d) : Dr K B2 H2 v d := by
  rcases h with h | ⟨p, xs, ds, rfl, rfl, hp, ha⟩
  · exact .inl (dp_mono g.b _ _ h)
  · exact .inr ⟨p, xs, ds, rfl, rfl, g.h _ _ hp, dpa_mono g.b _ _ ha⟩
section
variable {K : PySem.W.Frag} {B H B2 H2 : Hp} {σ : L2.St} {δ : List Slot} {F M : Addr → Prop}
theorem den_dr {v : V} {s : Slot} {d : PyData} {F' : Addr → Prop} (S : Sd K B H σ δ F') (h : VOk K σ δ B H v M s) (hd : den K δ s d) : Dr K B H v d := by
  rcases hd with rfl | ⟨ds, rfl, rfl | ⟨i, rfl, hi⟩⟩
  · exact .inl h.1
  · obtain ⟨p, xs, rfl, hp, ha, _⟩ := h
    exact .inr ⟨p, xs, ds, rfl, rfl, hp, ha⟩
  · obtain ⟨e, _⟩ := h
    obtain ⟨v', M', e', hP, _⟩ := S.opn hi
    rw [e] at e'
    cases e'
    obtain ⟨p, xs, rfl, hp, ha, _⟩ := hP
    exact .inr ⟨p, xs, ds, rfl, rfl, hp, ha⟩
/-- a temporary's own becomes data that stays -/
theorem freeze {v : V} {ds : List PyData} (S : Sd K B H σ δ fun a => F a ∨ M a) (h : (RL K ds).P v B H M) (f : ∀ a, M a → ¬ F a) : ∃ B2, Ex B B2 ∧ Sd K B2 H σ δ F ∧ Dp K B2 v (.list ds) := by
  obtain ⟨p, xs, rfl, hp, ha, hM⟩ := h
  have hb : B p = none := S.fb p (.inr ((hM p).mpr rfl))
  have e1 : Ex B (upd B p (.lst xs)) := Ex.new hb
  obtain ⟨ms, h1, h2, h3, h4⟩ := S.sl
  have e2 : Ex (upd B p (.lst xs)) H := fun a u q => by
    by_cases e : a = p
    · subst e; rw [upd_same] at q; cases q; exact hp
    · rw [upd_ne e] at q; exact S.bh a u q
  refine ⟨_, e1, ⟨e2, S.len, fun a ha => ?_, fun a ha => S.fl a (.inl ha), ms, fun i s hs => ?_, h2, fun i a q z => h3 i a q (.inl z), h4⟩, .lst (SqL.of upd_same) (dpa_mono e1 _ _ ha)⟩
  · rw [upd_ne (fun z => f a ((hM a).mpr z) ha)]
    exact S.fb a (.inl ha)
  · have q := h1 i s hs
    cases s with
    | non => exact q
    | pu d => obtain ⟨u, e3, hd, hM⟩ := q; exact ⟨u, e3, dp_mono e1 _ _ hd, hM⟩
    | ow R' =>
      obtain ⟨u, e3, hP', hb'⟩ := q
      refine ⟨u, e3, R'.loc hP' e1 fun _ _ => rfl, fun a ha => ?_⟩
      rw [upd_ne (fun z => h3 i a ha (.inr ((hM a).mpr z)))]
      exact hb' a ha
    | al _ => exact q
end

/-! ### expressions -/
def EvS (K : PySem.W.Frag) (te : TE) (δ : List Slot) (Φ : Slot → List Slot → Prop) : Prop :=
  ∀ (B H : Hp) (σ : L2.St) (F : Addr → Prop) (Q : VK), Sd K B H σ δ F →
    (∀ v M s B2 H2 δ2, Ex B B2 → (∀ a, F a → H2 a = H a) → Sd K B2 H2 σ δ2 (fun a => F a ∨ M a) → VOk K σ δ2 B2 H2 v M s → (∀ a, M a → ¬ F a) → Φ s δ2 → Q v H2) → te σ H Q
/-- .. to data that stays -/
def EvD (K : PySem.W.Frag) (te : TE) (δ : List Slot) (Φ : PyData → List Slot → Prop) : Prop :=
  ∀ (B H : Hp) (σ : L2.St) (F : Addr → Prop) (Q : VK), Sd K B H σ δ F →
    (∀ v d B2 H2 δ2, Ex B B2 → (∀ a, F a → H2 a = H a) → Sd K B2 H2 σ δ2 F → Dp K B2 v d → Φ d δ2 → Q v H2) → te σ H Q
def frz (K : PySem.W.Frag) (s : Slot) (d : PyData) : Prop := s = .pu d ∨ ∃ ds, d = .list ds ∧ s = .ow (RL K ds)
theorem frz_pu {K : PySem.W.Frag} {d : PyData} : frz K (.pu d) d := .inl rfl
theorem frz_ow {K : PySem.W.Frag} {ds : List PyData} : frz K (.ow (RL K ds)) (.list ds) := .inr ⟨ds, rfl, rfl⟩
theorem den_pu {K : PySem.W.Frag} {δ : List Slot} {d : PyData} : den K δ (.pu d) d := .inl rfl
theorem den_ow {K : PySem.W.Frag} {δ : List Slot} {ds : List PyData} : den K δ (.ow (RL K ds)) (.list ds) := .inr ⟨ds, rfl, .inl rfl⟩
theorem den_al {K : PySem.W.Frag} {δ : List Slot} {i : Nat} {ds : List PyData} (h : δ[i]? = some (.ow (RL K ds))) : den K δ (.al i) (.list ds) := .inr ⟨ds, rfl, .inr ⟨i, rfl, h⟩⟩
def EvT (K : PySem.W.Frag) (tt : TT) (δ : List Slot) (Φ : Bool → List Slot → Prop) : Prop :=
  ∀ (B H : Hp) (σ : L2.St) (F : Addr → Prop) (Q : Bool → Hp → Prop), Sd K B H σ δ F →
    (∀ b B2 H2 δ2, Ex B B2 → (∀ a, F a → H2 a = H a) → Sd K B2 H2 σ δ2 F → Φ b δ2 → Q b H2) → tt σ H Q
/-- arguments -/
inductive AOk (K : PySem.W.Frag) (σ : L2.St) (δ : List Slot) (B H : Hp) : List V → List Slot → (Addr → Prop) → Prop
  | nil : AOk K σ δ B H [] [] (fun _ => False)
  | cons {v : V} {s : Slot} {M1 : Addr → Prop} {vs : List V} {ss : List Slot} {M2 : Addr → Prop} : VOk K σ δ B H v M1 s → (∀ a, M1 a → ¬ M2 a) → AOk K σ δ B H vs ss M2 → AOk K σ δ B H (v :: vs) (s :: ss) (fun a => M1 a ∨ M2 a)
def EvA (K : PySem.W.Frag) (ta : TA) (δ : List Slot) (Φ : List Slot → List Slot → Prop) : Prop :=
  ∀ (B H : Hp) (σ : L2.St) (F : Addr → Prop) (Q : List V → Hp → Prop), Sd K B H σ δ F →
    (∀ vs M ss B2 H2 δ2, Ex B B2 → (∀ a, F a → H2 a = H a) → Sd K B2 H2 σ δ2 (fun a => F a ∨ M a) → AOk K σ δ2 B2 H2 vs ss M → (∀ a, M a → ¬ F a) → Φ ss δ2 → Q vs H2) → ta σ H Q
section
variable {K : PySem.W.Frag} {δ : List Slot} {te ta tb : TE} {tt tu : TT}
theorem EvS.imp {Φ Ψ : Slot → List Slot → Prop} (h : EvS K te δ Φ) (i : ∀ s δ2, Φ s δ2 → Ψ s δ2) : EvS K te δ Ψ := fun B H σ F Q S k => h B H σ F Q S fun v M s B2 H2 δ2 e f S2 w n p => k v M s B2 H2 δ2 e f S2 w n (i s δ2 p)
theorem EvT.imp {Φ Ψ : Bool → List Slot → Prop} (h : EvT K tt δ Φ) (i : ∀ s δ2, Φ s δ2 → Ψ s δ2) : EvT K tt δ Ψ := fun B H σ F Q S k => h B H σ F Q S fun b B2 H2 δ2 e f S2 p => k b B2 H2 δ2 e f S2 (i b δ2 p)
theorem ev_pu {i : Nat} {d : PyData} {Φ : Slot → List Slot → Prop} (hi : δ[i]? = some (.pu d)) (h : Φ (.pu d) δ) : EvS K (tVar i) δ Φ := fun B H σ F Q S k => by
  obtain ⟨v, e, hd⟩ := S.pu hi
  exact ⟨v, e, k v (fun _ => False) (.pu d) B H δ (Ex.refl _) (fun _ _ => rfl) (S.less fun a z => z.elim id False.elim) ⟨hd, fun _ z => z⟩ (fun _ z => z.elim) h⟩
theorem ev_al {i : Nat} {R : Res} {Φ : Slot → List Slot → Prop} (hi : δ[i]? = some (.ow R)) (h : Φ (.al i) δ) : EvS K (tVar i) δ Φ := fun B H σ F Q S k => by
  obtain ⟨v, M, e, hP, _⟩ := S.opn hi
  exact ⟨v, e, k v (fun _ => False) (.al i) B H δ (Ex.refl _) (fun _ _ => rfl) (S.less fun a z => z.elim id False.elim) ⟨e, fun _ z => z⟩ (fun _ z => z.elim) h⟩
theorem ev_c {v : V} {d : PyData} {Φ : Slot → List Slot → Prop} (hd : ∀ B : Hp, Dp K B v d) (h : Φ (.pu d) δ) : EvS K (tC v) δ Φ := fun B H σ F Q S k =>
  k v (fun _ => False) (.pu d) B H δ (Ex.refl _) (fun _ _ => rfl) (S.less fun a z => z.elim id False.elim) ⟨hd B, fun _ z => z⟩ (fun _ z => z.elim) h
theorem ev_int {i : Int} {Φ : Slot → List Slot → Prop} (h : Φ (.pu (.int i)) δ) : EvS K (tC (.int i)) δ Φ := ev_c (fun _ => .int i) h
theorem ev_bl {i : Bool} {Φ : Slot → List Slot → Prop} (h : Φ (.pu (.bool i)) δ) : EvS K (tC (.bl i)) δ Φ := ev_c (fun _ => .bl i) h
theorem ev_str {i : Str} {Φ : Slot → List Slot → Prop} (h : Φ (.pu (.str i)) δ) : EvS K (tC (.str i)) δ Φ := ev_c (fun _ => .str i) h
theorem ev_non {Φ : Slot → List Slot → Prop} (h : Φ (.pu .none) δ) : EvS K (tC .non) δ Φ := ev_c (fun _ => .non) h
/-- to data that stays -/
theorem ed_of {Φ : PyData → List Slot → Prop} (h : EvS K te δ fun s δ2 => ∃ d, frz K s d ∧ Φ d δ2) : EvD K te δ Φ := fun B H σ F Q S k =>
  h B H σ F Q S fun v M s B2 H2 δ2 e f S2 w n p => by
    obtain ⟨d, hf, q⟩ := p
    rcases hf with rfl | ⟨ds, rfl, rfl⟩
    · exact k v d B2 H2 δ2 e f (S2.less fun a z => .inl z) w.1 q
    · obtain ⟨B3, e3, S3, hd⟩ := freeze S2 w n
      exact k v _ B3 H2 δ2 (e.trans e3) f S3 hd q
/-- what holds of a temporary holds behind a further step -/
theorem VOk.step {σ : L2.St} {δ δ2 : List Slot} {B H B2 H2 : Hp} {v : V} {M : Addr → Prop} {s : Slot} (h : VOk K σ δ B H v M s) (e : Ex B B2) (f : ∀ a, M a → H2 a = H a) : VOk K σ δ2 B2 H2 v M s := by
  cases s with
  | non => exact h
  | pu d => exact ⟨dp_mono e _ _ h.1, h.2⟩
  | ow R => exact R.loc h e f
  | al i => exact h
end
end Dl

namespace Dl
open PySem PySem.Spec PyProof.Rows L2
open Evl (Ex)
section
variable {K : PySem.W.Frag} {δ : List Slot} {te ta tb tc : TE} {tt tu : TT} {r : R2}

/-! ### contracts of operations on values -/
/-- the result is data that stays -/
def OpP (K : PySem.W.Frag) (r : R2) (x y z : PyData) : Prop := ∀ (B H : Hp) (u v : V) (Q : VK), Ex B H → Dr K B H u x → Dr K B H v y → (∀ w B2 H2, Gr B H B2 H2 → Dp K B2 w z → Q w H2) → r u v H Q
/-- the result is a new list -/
def OpL (K : PySem.W.Frag) (r : R2) (x y : PyData) (zs : List PyData) : Prop := ∀ (B H : Hp) (u v : V) (Q : VK), Ex B H → Dr K B H u x → Dr K B H v y → (∀ p xs, H p = none → DpAll K B xs zs → Q (.ref p) (upd H p (.lst xs))) → r u v H Q
abbrev R1 := V → Hp → VK → Prop
def UnP (K : PySem.W.Frag) (r : R1) (x z : PyData) : Prop := ∀ (B H : Hp) (u : V) (Q : VK), Ex B H → Dr K B H u x → (∀ w B2 H2, Gr B H B2 H2 → Dp K B2 w z → Q w H2) → r u H Q
def UnL (K : PySem.W.Frag) (r : R1) (x : PyData) (zs : List PyData) : Prop := ∀ (B H : Hp) (u : V) (Q : VK), Ex B H → Dr K B H u x → (∀ p xs, H p = none → DpAll K B xs zs → Q (.ref p) (upd H p (.lst xs))) → r u H Q

theorem sd_own {B H : Hp} {σ : L2.St} {F : Addr → Prop} {p : Addr} {o : HO} (S : Sd K B H σ δ F) (hp : H p = none) : Sd K B (upd H p o) σ δ fun a => F a ∨ a = p := by
  have g : Gr B H B (upd H p o) := Gr.own S.bh hp
  have S2 := S.grow g
  obtain ⟨ms, h1, h2, h3, h4⟩ := S.sl
  obtain ⟨ms2, k1, k2, k3, k4⟩ := S2.sl
  refine ⟨S2.bh, S2.len, fun a ha => ?_, fun a ha => ?_, ms, fun i s hs => (h1 i s hs).grow g, h2, fun i a q z => ?_, h4⟩
  · rcases ha with z | rfl
    · exact S.fb a z
    · exact exnone S.bh hp
  · rcases ha with z | rfl
    · exact S2.fl a z
    · rw [upd_same]; exact fun z => nomatch z
  · rcases z with z | rfl
    · exact h3 i a q z
    · have hl := h4 i a q
      have q2 := h1 i δ[i] (List.getElem?_eq_getElem hl)
      cases e : δ[i] with
      | non => rw [e] at q2; exact q2 a q
      | pu d => rw [e] at q2; obtain ⟨_, _, _, z⟩ := q2; exact z a q
      | ow R => rw [e] at q2; obtain ⟨_, _, hP, _⟩ := q2; exact R.live hP a q hp
      | al j => rw [e] at q2; exact q2
theorem rl_new {B H : Hp} {p : Addr} {xs : List V} {zs : List PyData} (ha : DpAll K B xs zs) : (RL K zs).P (.ref p) B (upd H p (.lst xs)) (fun a => a = p) := ⟨p, xs, rfl, upd_same, ha, fun _ => Iff.rfl⟩

theorem ev_opP {Φ : Slot → List Slot → Prop} (h : EvS K ta δ fun s1 δ1 => EvS K tb δ1 fun s2 δ2 => ∃ x y z, den K δ2 s1 x ∧ den K δ2 s2 y ∧ OpP K r x y z ∧ Φ (.pu z) δ2) : EvS K (tOp r ta tb) δ Φ := fun B H σ F Q S k =>
  h B H σ F _ S fun v1 M1 s1 B1 H1 δ1 e1 f1 S1 w1 n1 p1 => p1 B1 H1 σ _ _ S1 fun v2 M2 s2 B2 H2 δ2 e2 f2 S2 w2 n2 p2 => by
    obtain ⟨x, y, z, d1, d2, hO, q⟩ := p2
    have w1' : VOk K σ δ2 B2 H2 v1 M1 s1 := w1.step e2 fun a ha => f2 a (.inr ha)
    refine hO B2 H2 v1 v2 Q S2.bh (den_dr S2 w1' d1) (den_dr S2 w2 d2) fun w B3 H3 g hz => ?_
    exact k w (fun _ => False) (.pu z) B3 H3 δ2 ((e1.trans e2).trans g.b) (fun a ha => by
      rw [ex_eq g.h (S2.fl a (.inl (.inl ha))), f2 a (.inl ha), f1 a ha]) ((S2.grow g).less fun a ha => ha.elim (fun z => .inl (.inl z)) False.elim) ⟨hz, fun _ z => z⟩ (fun _ z => z.elim) q
theorem ev_opL {Φ : Slot → List Slot → Prop} (h : EvS K ta δ fun s1 δ1 => EvS K tb δ1 fun s2 δ2 => ∃ x y zs, den K δ2 s1 x ∧ den K δ2 s2 y ∧ OpL K r x y zs ∧ Φ (.ow (RL K zs)) δ2) : EvS K (tOp r ta tb) δ Φ := fun B H σ F Q S k =>
  h B H σ F _ S fun v1 M1 s1 B1 H1 δ1 e1 f1 S1 w1 n1 p1 => p1 B1 H1 σ _ _ S1 fun v2 M2 s2 B2 H2 δ2 e2 f2 S2 w2 n2 p2 => by
    obtain ⟨x, y, zs, d1, d2, hO, q⟩ := p2
    have w1' : VOk K σ δ2 B2 H2 v1 M1 s1 := w1.step e2 fun a ha => f2 a (.inr ha)
    have SF : Sd K B2 H2 σ δ2 F := S2.less fun a ha => .inl (.inl ha)
    refine hO B2 H2 v1 v2 Q S2.bh (den_dr S2 w1' d1) (den_dr S2 w2 d2) fun p xs hp hz => ?_
    refine k (.ref p) (fun a => a = p) (.ow (RL K zs)) B2 _ δ2 (e1.trans e2) (fun a ha => ?_) (sd_own SF hp) (rl_new hz) (fun a ha f => ?_) q
    · rw [upd_ne (fun z => SF.fl a ha (by rw [z]; exact hp)), f2 a (.inl ha), f1 a ha]
    · rw [ha] at f; exact SF.fl p f hp
theorem ev_unP {r : R1} {Φ : Slot → List Slot → Prop} (h : EvS K ta δ fun s1 δ1 => ∃ x z, den K δ1 s1 x ∧ UnP K r x z ∧ Φ (.pu z) δ1) : EvS K (fun σ H Q => ta σ H fun x H1 => r x H1 Q) δ Φ := fun B H σ F Q S k =>
  h B H σ F _ S fun v2 M2 s2 B2 H2 δ2 e2 f2 S2 w2 n2 p2 => by
    obtain ⟨y, z, d2, hO, q⟩ := p2
    refine hO B2 H2 v2 Q S2.bh (den_dr S2 w2 d2) fun w B3 H3 g hz => ?_
    exact k w (fun _ => False) (.pu z) B3 H3 δ2 (e2.trans g.b) (fun a ha => by
      rw [ex_eq g.h (S2.fl a (.inl ha)), f2 a ha]) ((S2.grow g).less fun a ha => ha.elim (fun z => .inl z) False.elim) ⟨hz, fun _ z => z⟩ (fun _ z => z.elim) q
theorem ev_unL {r : R1} {Φ : Slot → List Slot → Prop} (h : EvS K ta δ fun s1 δ1 => ∃ x zs, den K δ1 s1 x ∧ UnL K r x zs ∧ Φ (.ow (RL K zs)) δ1) : EvS K (fun σ H Q => ta σ H fun x H1 => r x H1 Q) δ Φ := fun B H σ F Q S k =>
  h B H σ F _ S fun v2 M2 s2 B2 H2 δ2 e2 f2 S2 w2 n2 p2 => by
    obtain ⟨y, zs, d2, hO, q⟩ := p2
    have SF : Sd K B2 H2 σ δ2 F := S2.less fun a ha => .inl ha
    refine hO B2 H2 v2 Q S2.bh (den_dr S2 w2 d2) fun p xs hp hz => ?_
    refine k (.ref p) (fun a => a = p) (.ow (RL K zs)) B2 _ δ2 e2 (fun a ha => ?_) (sd_own SF hp) (rl_new hz) (fun a ha f => ?_) q
    · rw [upd_ne (fun z => SF.fl a ha (by rw [z]; exact hp)), f2 a ha]
    · rw [ha] at f; exact SF.fl p f hp
/-! a result that is flat -/
theorem opP_flat {x y z : PyData} (f : flatD z = true) (h : ∀ (B H : Hp) (u v : V) (Q : VK), Ex B H → Dr K B H u x → Dr K B H v y → Q (valD z) H → r u v H Q) : OpP K r x y z := fun B H u v Q e d1 d2 k => h B H u v Q e d1 d2 (k _ B H (Gr.refl e) (dp_flat f))
theorem unP_flat {r : R1} {x z : PyData} (f : flatD z = true) (h : ∀ (B H : Hp) (u : V) (Q : VK), Ex B H → Dr K B H u x → Q (valD z) H → r u H Q) : UnP K r x z := fun B H u Q e d1 k => h B H u Q e d1 (k _ B H (Gr.refl e) (dp_flat f))
theorem dr_int {B H : Hp} {v : V} {i : Int} (h : Dr K B H v (.int i)) : v = .int i := by
  rcases h with h | ⟨p, xs, ds, rfl, e, _⟩
  · exact dp_int_inv h
  · cases e
theorem dr_str {B H : Hp} {v : V} {i : Str} (h : Dr K B H v (.str i)) : v = .str i := by
  rcases h with h | ⟨p, xs, ds, rfl, e, _⟩
  · exact dp_str_inv h
  · cases e
theorem dr_bl {B H : Hp} {v : V} {i : Bool} (h : Dr K B H v (.bool i)) : v = .bl i := by
  rcases h with h | ⟨p, xs, ds, rfl, e, _⟩
  · exact dp_bl_inv h
  · cases e
theorem dr_flat {B H : Hp} {v : V} {d : PyData} (f : flatD d = true) (h : Dr K B H v d) : v = valD d := by
  rcases h with h | ⟨p, xs, ds, rfl, e, _⟩
  · exact flat_val f h
  · subst e; cases f

/-! ### ints -/
theorem ev_I0 {g : Int → Int → Int} {Φ : Slot → List Slot → Prop} (h : EvS K ta δ fun s1 δ1 => EvS K tb δ1 fun s2 δ2 => ∃ i j, s1 = .pu (.int i) ∧ s2 = .pu (.int j) ∧ Φ (.pu (.int (g i j))) δ2) : EvS K (tOp (rI0 fun i j => .int (g i j)) ta tb) δ Φ :=
  ev_opP (h.imp fun s1 δ1 h1 => h1.imp fun s2 δ2 ⟨i, j, e1, e2, q⟩ => ⟨.int i, .int j, .int (g i j), .inl e1, .inl e2, opP_flat rfl fun B H u v Q e d1 d2 k => ⟨i, j, dr_int d1, dr_int d2, k⟩, q⟩)
theorem ev_I {C : Int → Int → Prop} {g : Int → Int → Int} {Φ : Slot → List Slot → Prop} (h : EvS K ta δ fun s1 δ1 => EvS K tb δ1 fun s2 δ2 => ∃ i j, s1 = .pu (.int i) ∧ s2 = .pu (.int j) ∧ C i j ∧ Φ (.pu (.int (g i j))) δ2) : EvS K (tOp (rI C fun i j => .int (g i j)) ta tb) δ Φ :=
  ev_opP (h.imp fun s1 δ1 h1 => h1.imp fun s2 δ2 ⟨i, j, e1, e2, c, q⟩ => ⟨.int i, .int j, .int (g i j), .inl e1, .inl e2, opP_flat rfl fun B H u v Q e d1 d2 k => ⟨i, j, dr_int d1, dr_int d2, c, k⟩, q⟩)
theorem ev_B0 {g : Int → Int → Bool} {Φ : Slot → List Slot → Prop} (h : EvS K ta δ fun s1 δ1 => EvS K tb δ1 fun s2 δ2 => ∃ i j, s1 = .pu (.int i) ∧ s2 = .pu (.int j) ∧ Φ (.pu (.bool (g i j))) δ2) : EvS K (tOp (rI0 fun i j => .bl (g i j)) ta tb) δ Φ :=
  ev_opP (h.imp fun s1 δ1 h1 => h1.imp fun s2 δ2 ⟨i, j, e1, e2, q⟩ => ⟨.int i, .int j, .bool (g i j), .inl e1, .inl e2, opP_flat rfl fun B H u v Q e d1 d2 k => ⟨i, j, dr_int d1, dr_int d2, k⟩, q⟩)
theorem ev_neg {g : Int → Int} {Φ : Slot → List Slot → Prop} (h : EvS K ta δ fun s1 δ1 => ∃ i, s1 = .pu (.int i) ∧ Φ (.pu (.int (g i))) δ1) : EvS K (tUn (rU fun i => .int (g i)) ta) δ Φ :=
  ev_unP (r := rU fun i => .int (g i)) (h.imp fun s1 δ1 ⟨i, e1, q⟩ => ⟨.int i, .int (g i), .inl e1, unP_flat rfl fun B H u Q e d1 k => ⟨i, dr_int d1, k⟩, q⟩)
/-! ### == of scalars -/
def eqF (x y : PyData) : Bool := decide (valD x = valD y)
theorem eqF_int (i j : Int) : eqF (.int i) (.int j) = decide (i = j) := by unfold eqF valD; simp
theorem eqF_str (i j : Str) : eqF (.str i) (.str j) = decide (i = j) := by unfold eqF valD; simp
def scF (x y : PyData) : Bool := flatD x && flatD y && scal (valD x) (valD y)
theorem ev_eq {Φ : Slot → List Slot → Prop} (h : EvS K ta δ fun s1 δ1 => EvS K tb δ1 fun s2 δ2 => ∃ x y, s1 = .pu x ∧ s2 = .pu y ∧ scF x y = true ∧ Φ (.pu (.bool (eqF x y))) δ2) : EvS K (tOp rEq ta tb) δ Φ :=
  ev_opP (h.imp fun s1 δ1 h1 => h1.imp fun s2 δ2 ⟨x, y, e1, e2, c, q⟩ => ⟨x, y, .bool (eqF x y), .inl e1, .inl e2, opP_flat rfl fun B H u v Q e d1 d2 k => by
    unfold scF at c
    rw [Bool.and_eq_true, Bool.and_eq_true] at c
    rw [dr_flat c.1.1 d1, dr_flat c.1.2 d2]
    exact ⟨c.2, k⟩, q⟩)
theorem ev_ne {Φ : Slot → List Slot → Prop} (h : EvS K ta δ fun s1 δ1 => EvS K tb δ1 fun s2 δ2 => ∃ x y, s1 = .pu x ∧ s2 = .pu y ∧ scF x y = true ∧ Φ (.pu (.bool (!eqF x y))) δ2) : EvS K (tOp rNe ta tb) δ Φ :=
  ev_opP (h.imp fun s1 δ1 h1 => h1.imp fun s2 δ2 ⟨x, y, e1, e2, c, q⟩ => ⟨x, y, .bool (!eqF x y), .inl e1, .inl e2, opP_flat rfl fun B H u v Q e d1 d2 k => by
    unfold scF at c
    rw [Bool.and_eq_true, Bool.and_eq_true] at c
    rw [dr_flat c.1.1 d1, dr_flat c.1.2 d2]
    exact ⟨c.2, k⟩, q⟩)
theorem ev_eqI {Φ : Slot → List Slot → Prop} (h : EvS K ta δ fun s1 δ1 => EvS K tb δ1 fun s2 δ2 => ∃ i j, s1 = .pu (.int i) ∧ s2 = .pu (.int j) ∧ Φ (.pu (.bool (decide (i = j)))) δ2) : EvS K (tOp rEq ta tb) δ Φ :=
  ev_eq (h.imp fun s1 δ1 h1 => h1.imp fun s2 δ2 ⟨i, j, e1, e2, q⟩ => ⟨_, _, e1, e2, rfl, by rw [eqF_int]; exact q⟩)
theorem ev_eqS {Φ : Slot → List Slot → Prop} (h : EvS K ta δ fun s1 δ1 => EvS K tb δ1 fun s2 δ2 => ∃ i j, s1 = .pu (.str i) ∧ s2 = .pu (.str j) ∧ Φ (.pu (.bool (decide (i = j)))) δ2) : EvS K (tOp rEq ta tb) δ Φ :=
  ev_eq (h.imp fun s1 δ1 h1 => h1.imp fun s2 δ2 ⟨i, j, e1, e2, q⟩ => ⟨_, _, e1, e2, rfl, by rw [eqF_str]; exact q⟩)
theorem ev_neI {Φ : Slot → List Slot → Prop} (h : EvS K ta δ fun s1 δ1 => EvS K tb δ1 fun s2 δ2 => ∃ i j, s1 = .pu (.int i) ∧ s2 = .pu (.int j) ∧ Φ (.pu (.bool (!decide (i = j)))) δ2) : EvS K (tOp rNe ta tb) δ Φ :=
  ev_ne (h.imp fun s1 δ1 h1 => h1.imp fun s2 δ2 ⟨i, j, e1, e2, q⟩ => ⟨_, _, e1, e2, rfl, by rw [eqF_int]; exact q⟩)
theorem ev_neS {Φ : Slot → List Slot → Prop} (h : EvS K ta δ fun s1 δ1 => EvS K tb δ1 fun s2 δ2 => ∃ i j, s1 = .pu (.str i) ∧ s2 = .pu (.str j) ∧ Φ (.pu (.bool (!decide (i = j)))) δ2) : EvS K (tOp rNe ta tb) δ Φ :=
  ev_ne (h.imp fun s1 δ1 h1 => h1.imp fun s2 δ2 ⟨i, j, e1, e2, q⟩ => ⟨_, _, e1, e2, rfl, by rw [eqF_str]; exact q⟩)
/-! ### deep == -/
theorem ev_eqD {Φ : Slot → List Slot → Prop} (h : EvS K ta δ fun s1 δ1 => EvS K tb δ1 fun s2 δ2 => ∃ x y, den K δ2 s1 x ∧ den K δ2 s2 y ∧ SeqAt.shaped x = true ∧ SeqAt.shaped y = true ∧ Φ (.pu (.bool (PyData.eqv x y))) δ2) : EvS K (tOp (rEqD K) ta tb) δ Φ :=
  ev_opP (h.imp fun s1 δ1 h1 => h1.imp fun s2 δ2 ⟨x, y, e1, e2, c1, c2, q⟩ => ⟨x, y, .bool (PyData.eqv x y), e1, e2, opP_flat rfl fun B H u v Q e d1 d2 k => ⟨x, y, d1.dp e, d2.dp e, c1, c2, k⟩, q⟩)
theorem ev_neD {Φ : Slot → List Slot → Prop} (h : EvS K ta δ fun s1 δ1 => EvS K tb δ1 fun s2 δ2 => ∃ x y, den K δ2 s1 x ∧ den K δ2 s2 y ∧ SeqAt.shaped x = true ∧ SeqAt.shaped y = true ∧ Φ (.pu (.bool (!PyData.eqv x y))) δ2) : EvS K (tOp (rNeD K) ta tb) δ Φ :=
  ev_opP (h.imp fun s1 δ1 h1 => h1.imp fun s2 δ2 ⟨x, y, e1, e2, c1, c2, q⟩ => ⟨x, y, .bool (!PyData.eqv x y), e1, e2, opP_flat rfl fun B H u v Q e d1 d2 k => ⟨x, y, d1.dp e, d2.dp e, c1, c2, k⟩, q⟩)
/-! ### in, is None -/
def memD (x : PyData) (ds : List PyData) : Bool := ds.any fun y => eqV (valD y) (valD x)
theorem inV_mem {H : Hp} {x : PyData} : ∀ {vs : List V} {ds : List PyData}, ds.all flatD = true → DpAll K H vs ds → inV (valD x) vs = memD x ds
  | _, _, _, .nil => rfl
  | _, d :: ds, f, .cons r t => by
    rw [List.all_cons, Bool.and_eq_true] at f
    unfold inV memD
    rw [List.any_cons, List.any_cons, flat_val f.1 r]
    have := inV_mem (x := x) f.2 t
    unfold inV memD at this
    rw [this]
theorem ev_in {neg : Bool} {Φ : Slot → List Slot → Prop} (h : EvS K ta δ fun s1 δ1 => EvS K tb δ1 fun s2 δ2 => ∃ x ds, s1 = .pu x ∧ (den K δ2 s2 (.list ds) ∨ den K δ2 s2 (.tuple ds)) ∧ flatD x = true ∧ ds.all flatD = true ∧ Φ (.pu (.bool (if neg then !memD x ds else memD x ds))) δ2) : EvS K (tOp (rIn K neg) ta tb) δ Φ :=
  ev_opP (h.imp fun s1 δ1 h1 => h1.imp fun s2 δ2 ⟨x, ds, e1, e2, c1, c2, q⟩ => by
    rcases e2 with e2 | e2
    · refine ⟨x, .list ds, .bool (if neg then !memD x ds else memD x ds), .inl e1, e2, opP_flat rfl fun B H u v Q e d1 d2 k => ?_, q⟩
      obtain ⟨p, xs, rfl, hs, ha⟩ := d2.lst e
      rw [dr_flat c1 d1]
      refine ⟨p, xs, rfl, .inl hs, flat_flat (H := B) c1 (dp_flat (K := K) c1), dpa_flat c2 ha, ?_⟩
      rw [inV_mem c2 ha]
      exact k
    · refine ⟨x, .tuple ds, .bool (if neg then !memD x ds else memD x ds), .inl e1, e2, opP_flat rfl fun B H u v Q e d1 d2 k => ?_, q⟩
      obtain ⟨p, xs, rfl, hs, ha⟩ := d2.tup e
      rw [dr_flat c1 d1]
      refine ⟨p, xs, rfl, .inr hs, flat_flat (H := B) c1 (dp_flat (K := K) c1), dpa_flat c2 ha, ?_⟩
      rw [inV_mem c2 ha]
      exact k)
theorem memD_int {i : Int} {ns : List Int} : memD (.int i) (ns.map PyData.int) = decide (i ∈ ns) := by
  induction ns with
  | nil => simp [memD]
  | cons n r ih =>
    have e : memD (.int i) ((n :: r).map PyData.int) = (eqV (.int n) (.int i) || memD (.int i) (r.map PyData.int)) := rfl
    rw [e, ih]
    by_cases h : n = i
    · subst h; simp [eqV]
    · have h' : ¬ i = n := fun z => h z.symm
      simp [eqV, h, h']
theorem memD_str {i : Str} {ns : List Str} : memD (.str i) (ns.map PyData.str) = decide (i ∈ ns) := by
  induction ns with
  | nil => simp [memD]
  | cons n r ih =>
    have e : memD (.str i) ((n :: r).map PyData.str) = (eqV (.str n) (.str i) || memD (.str i) (r.map PyData.str)) := rfl
    rw [e, ih]
    by_cases h : n = i
    · subst h; simp [eqV]
    · have h' : ¬ i = n := fun z => h z.symm
      simp [eqV, h, h']
theorem all_ints (ns : List Int) : (ns.map PyData.int).all flatD = true := by induction ns with | nil => rfl | cons n r ih => rw [List.map_cons, List.all_cons, ih]; rfl
theorem all_strs (ns : List Str) : (ns.map PyData.str).all flatD = true := by induction ns with | nil => rfl | cons n r ih => rw [List.map_cons, List.all_cons, ih]; rfl
theorem ev_inI {neg : Bool} {Φ : Slot → List Slot → Prop} (h : EvS K ta δ fun s1 δ1 => EvS K tb δ1 fun s2 δ2 => ∃ (i : Int) (ns : List Int), s1 = .pu (.int i) ∧ (den K δ2 s2 (.list (ns.map PyData.int)) ∨ den K δ2 s2 (.tuple (ns.map PyData.int))) ∧ Φ (.pu (.bool (if neg then !decide (i ∈ ns) else decide (i ∈ ns)))) δ2) : EvS K (tOp (rIn K neg) ta tb) δ Φ :=
  ev_in (h.imp fun s1 δ1 h1 => h1.imp fun s2 δ2 ⟨i, ns, e1, e2, q⟩ => ⟨_, _, e1, e2, rfl, all_ints ns, by rw [memD_int]; exact q⟩)
theorem ev_inS {neg : Bool} {Φ : Slot → List Slot → Prop} (h : EvS K ta δ fun s1 δ1 => EvS K tb δ1 fun s2 δ2 => ∃ (i : Str) (ns : List Str), s1 = .pu (.str i) ∧ (den K δ2 s2 (.list (ns.map PyData.str)) ∨ den K δ2 s2 (.tuple (ns.map PyData.str))) ∧ Φ (.pu (.bool (if neg then !decide (i ∈ ns) else decide (i ∈ ns)))) δ2) : EvS K (tOp (rIn K neg) ta tb) δ Φ :=
  ev_in (h.imp fun s1 δ1 h1 => h1.imp fun s2 δ2 ⟨i, ns, e1, e2, q⟩ => ⟨_, _, e1, e2, rfl, all_strs ns, by rw [memD_str]; exact q⟩)
def isNone : PyData → Bool | .none => true | _ => false
theorem isN_dr {B H : Hp} {v : V} {d : PyData} (h : Dr K B H v d) : decide (v = .non) = isNone d := by
  rcases h with h | ⟨p, xs, ds, rfl, rfl, _⟩
  · cases h <;> rfl
  · rfl
theorem ev_isN {Φ : Slot → List Slot → Prop} (h : EvS K ta δ fun s δ1 => ∃ x, den K δ1 s x ∧ Φ (.pu (.bool (isNone x))) δ1) : EvS K (tIsN ta) δ Φ :=
  ev_unP (r := fun x H1 Q => Q (.bl (decide (x = .non))) H1) (h.imp fun s δ1 ⟨x, e, q⟩ => ⟨x, .bool (isNone x), e, unP_flat rfl fun B H u Q e d k => by rw [isN_dr d]; exact k, q⟩)
theorem ev_notN {Φ : Slot → List Slot → Prop} (h : EvS K ta δ fun s δ1 => ∃ x, den K δ1 s x ∧ Φ (.pu (.bool (!isNone x))) δ1) : EvS K (tNotN ta) δ Φ :=
  ev_unP (r := fun x H1 Q => Q (.bl (!decide (x = .non))) H1) (h.imp fun s δ1 ⟨x, e, q⟩ => ⟨x, .bool (!isNone x), e, unP_flat rfl fun B H u Q e d k => by rw [isN_dr d]; exact k, q⟩)
/-! ### items -/
theorem atI_dpa {H : Hp} {vs : List V} {ds : List PyData} {i : Int} {d : PyData} (h : DpAll K H vs ds) (e : atI ds i = some d) : ∃ v, atI vs i = some v ∧ Dp K H v d := by
  unfold atI at e ⊢
  rw [dpa_len h]
  cases q : ixN ds.length i with
  | none => rw [q] at e; cases e
  | some j =>
    rw [q] at e
    exact dpa_get h e
theorem ev_ixL {Φ : Slot → List Slot → Prop} (h : EvS K ta δ fun s1 δ1 => EvS K tb δ1 fun s2 δ2 => ∃ ds i d, den K δ2 s1 (.list ds) ∧ s2 = .pu (.int i) ∧ atI ds i = some d ∧ Φ (.pu d) δ2) : EvS K (tOp (rIxL K) ta tb) δ Φ :=
  ev_opP (h.imp fun s1 δ1 h1 => h1.imp fun s2 δ2 ⟨ds, i, d, e1, e2, hi, q⟩ => ⟨.list ds, .int i, d, e1, .inl e2, fun B H u v Q e d1 d2 k => by
    obtain ⟨p, xs, rfl, hs, ha⟩ := d1.lst e
    obtain ⟨w, hw, hd⟩ := atI_dpa ha hi
    exact ⟨p, xs, i, w, rfl, dr_int d2, hs, hw, k w B H (Gr.refl e) hd⟩, q⟩)
theorem ev_ixT {Φ : Slot → List Slot → Prop} (h : EvS K ta δ fun s1 δ1 => EvS K tb δ1 fun s2 δ2 => ∃ ds i d, s1 = .pu (.tuple ds) ∧ s2 = .pu (.int i) ∧ atI ds i = some d ∧ Φ (.pu d) δ2) : EvS K (tOp (rIxT K) ta tb) δ Φ :=
  ev_opP (h.imp fun s1 δ1 h1 => h1.imp fun s2 δ2 ⟨ds, i, d, e1, e2, hi, q⟩ => ⟨.tuple ds, .int i, d, .inl e1, .inl e2, fun B H u v Q e d1 d2 k => by
    obtain ⟨p, xs, rfl, hs, ha⟩ := d1.tup e
    obtain ⟨w, hw, hd⟩ := atI_dpa ha hi
    exact ⟨p, xs, i, w, rfl, dr_int d2, hs, hw, k w B H (Gr.refl e) hd⟩, q⟩)
theorem atI_nat' {α : Type} {xs : List α} {i : Nat} {x : α} (h : xs[i]? = some x) : atI xs (i : Int) = some x := atI_nat h
/-! ### + of lists, tuples, texts; * -/
theorem ev_catA {Φ : Slot → List Slot → Prop} (h : EvS K ta δ fun s1 δ1 => EvS K tb δ1 fun s2 δ2 => ∃ xs ys, s1 = .pu (.tuple xs) ∧ s2 = .pu (.tuple ys) ∧ xs.length + ys.length ≤ 100000 ∧ Φ (.pu (.tuple (xs ++ ys))) δ2) : EvS K (tOp (rCatA K) ta tb) δ Φ :=
  ev_opP (h.imp fun s1 δ1 h1 => h1.imp fun s2 δ2 ⟨ds, es, e1, e2, hl, q⟩ => ⟨.tuple ds, .tuple es, .tuple (ds ++ es), .inl e1, .inl e2, fun B H u v Q e d1 d2 k => by
    obtain ⟨p, xs, rfl, hs, ha⟩ := d1.tup e
    obtain ⟨p2, ys, rfl, hs2, ha2⟩ := d2.tup e
    have l1 := dpa_len ha
    have l2 := dpa_len ha2
    refine ⟨p, p2, xs, ys, rfl, rfl, hs, hs2, Evl.sz_of (by omega), fun z => ?_, fun z1 z2 => ?_, fun z1 z2 q hq => ?_⟩
    · subst z
      cases ha
      rcases d2 with d2 | ⟨_, _, _, _, z, _⟩
      · exact k _ B H (Gr.refl e) d2
      · cases z
    · subst z2
      cases ha2
      rw [List.append_nil] at k
      rcases d1 with d1 | ⟨_, _, _, _, z, _⟩
      · exact k _ B H (Gr.refl e) d1
      · cases z
    · have g := Gr.new (o := .tup (xs ++ ys)) e hq
      exact k _ _ _ g (.tup (SqT.of upd_same) (dpa_mono g.b _ _ (dpa_append ha ha2))), q⟩)
theorem ev_addS {Φ : Slot → List Slot → Prop} (h : EvS K ta δ fun s1 δ1 => EvS K tb δ1 fun s2 δ2 => ∃ i j, s1 = .pu (.str i) ∧ s2 = .pu (.str j) ∧ i.length + j.length ≤ sizeLine ∧ Φ (.pu (.str (i ++ j))) δ2) : EvS K (tOp (fun x y H Q => ∃ i j, x = .str i ∧ y = .str j ∧ i.length + j.length ≤ sizeLine ∧ Q (.str (i ++ j)) H) ta tb) δ Φ :=
  ev_opP (h.imp fun s1 δ1 h1 => h1.imp fun s2 δ2 ⟨i, j, e1, e2, hl, q⟩ => ⟨.str i, .str j, .str (i ++ j), .inl e1, .inl e2, opP_flat rfl fun B H u v Q e d1 d2 k => ⟨i, j, dr_str d1, dr_str d2, hl, k⟩, q⟩)
/-! ### displays -/
theorem AOk.all {B H : Hp} {σ : L2.St} {ss : List Slot} {ds : List PyData} : ∀ {vs : List V} {M : Addr → Prop}, AOk K σ δ B H vs ss M → ss = ds.map Slot.pu → DpAll K B vs ds ∧ ∀ a, ¬ M a := by
  intro vs M h
  induction h generalizing ds with
  | nil => intro e; cases ds with
    | nil => exact ⟨.nil, fun _ z => z⟩
    | cons _ _ => cases e
  | cons h1 h2 h3 ih =>
    intro e
    cases ds with
    | nil => cases e
    | cons d ds =>
      rw [List.map_cons] at e
      injection e with e1 e2
      subst e1
      obtain ⟨a1, a2⟩ := ih e2
      exact ⟨.cons h1.1 a1, fun a z => z.elim (h1.2 a) (a2 a)⟩
/-- arguments, each to data that stays -/
def EvDs (K : PySem.W.Frag) (ta : TA) (δ : List Slot) (Φ : List PyData → List Slot → Prop) : Prop :=
  ∀ (B H : Hp) (σ : L2.St) (F : Addr → Prop) (Q : List V → Hp → Prop), Sd K B H σ δ F →
    (∀ vs ds B2 H2 δ2, Ex B B2 → (∀ a, F a → H2 a = H a) → Sd K B2 H2 σ δ2 F → DpAll K B2 vs ds → Φ ds δ2 → Q vs H2) → ta σ H Q
theorem eds_nil {Φ : List PyData → List Slot → Prop} (h : Φ [] δ) : EvDs K tNil δ Φ := fun B H σ F Q S k => k [] [] B H δ (Ex.refl _) (fun _ _ => rfl) S .nil h
theorem eds_cons {tr : TA} {Φ : List PyData → List Slot → Prop} (h : EvS K ta δ fun s δ1 => ∃ d, frz K s d ∧ EvDs K tr δ1 fun ds δ2 => Φ (d :: ds) δ2) : EvDs K (tCons ta tr) δ Φ := fun B H σ F Q S k =>
  ed_of (Φ := fun d δ1 => EvDs K tr δ1 fun ds δ2 => Φ (d :: ds) δ2) h B H σ F _ S fun v d B1 H1 δ1 e1 f1 S1 hd p1 => p1 B1 H1 σ F _ S1 fun vs ds B2 H2 δ2 e2 f2 S2 ha p2 =>
    k (v :: vs) (d :: ds) B2 H2 δ2 (e1.trans e2) (fun a z => (f2 a z).trans (f1 a z)) S2 (.cons (dp_mono e2 _ _ hd) ha) p2
theorem ev_tup {t : TA} {Φ : Slot → List Slot → Prop} (h : EvDs K t δ fun ds δ1 => ds.length ≤ 100000 ∧ Φ (.pu (.tuple ds)) δ1) : EvS K (tTup t) δ Φ := fun B H σ F Q S k =>
  h B H σ F _ S fun vs ds B1 H1 δ1 e1 f1 S1 ha ⟨hl, q⟩ => ⟨Evl.sz_of (by rw [dpa_len ha]; exact hl), fun p hp => by
    have g := Gr.new (o := .tup vs) S1.bh hp
    exact k _ (fun _ => False) (.pu (.tuple ds)) _ _ δ1 (e1.trans g.b) (fun a z => by rw [ex_eq g.h (S1.fl a z), f1 a z]) ((S1.grow g).less fun a z => z.elim id False.elim) ⟨.tup (SqT.of upd_same) (dpa_mono g.b _ _ ha), fun _ z => z⟩ (fun _ z => z.elim) q⟩
theorem ev_lst {t : TA} {Φ : Slot → List Slot → Prop} (h : EvDs K t δ fun ds δ1 => ds.length ≤ 100000 ∧ Φ (.ow (RL K ds)) δ1) : EvS K (tLst t) δ Φ := fun B H σ F Q S k =>
  h B H σ F _ S fun vs ds B1 H1 δ1 e1 f1 S1 ha ⟨hl, q⟩ => ⟨Evl.sz_of (by rw [dpa_len ha]; exact hl), fun p hp => by
    refine k (.ref p) (fun a => a = p) (.ow (RL K ds)) B1 _ δ1 e1 (fun a z => ?_) (sd_own S1 hp) (rl_new ha) (fun a z f => ?_) q
    · rw [upd_ne (fun z2 => S1.fl a z (by rw [z2]; exact hp)), f1 a z]
    · rw [z] at f; exact S1.fl p f hp⟩
/-! ### and, or, not, if -/
theorem ev_andV {Φ : Slot → List Slot → Prop} (h : EvS K ta δ fun s δ1 => ∃ c, s = .pu (.bool c) ∧ if c = true then EvS K tb δ1 Φ else Φ (.pu (.bool false)) δ1) : EvS K (tAndV ta tb) δ Φ := fun B H σ F Q S k =>
  h B H σ F _ S fun v M s B1 H1 δ1 e1 f1 S1 w n ⟨c, es, p⟩ => by
    subst es
    refine ⟨c, dp_bl_inv w.1, ?_⟩
    have S1' : Sd K B1 H1 σ δ1 F := S1.less fun a z => .inl z
    cases c with
    | true =>
      rw [if_pos rfl] at p ⊢
      exact p B1 H1 σ F Q S1' fun v M s B2 H2 δ2 e2 f2 S2 w n q => k v M s B2 H2 δ2 (e1.trans e2) (fun a z => (f2 a z).trans (f1 a z)) S2 w n q
    | false =>
      rw [if_neg Bool.false_ne_true] at p ⊢
      exact k _ (fun _ => False) (.pu (.bool false)) B1 H1 δ1 e1 f1 (S1'.less fun a z => z.elim id False.elim) ⟨.bl false, fun _ z => z⟩ (fun _ z => z.elim) p
theorem ev_orV {Φ : Slot → List Slot → Prop} (h : EvS K ta δ fun s δ1 => ∃ c, s = .pu (.bool c) ∧ if c = true then Φ (.pu (.bool true)) δ1 else EvS K tb δ1 Φ) : EvS K (tOrV ta tb) δ Φ := fun B H σ F Q S k =>
  h B H σ F _ S fun v M s B1 H1 δ1 e1 f1 S1 w n ⟨c, es, p⟩ => by
    subst es
    refine ⟨c, dp_bl_inv w.1, ?_⟩
    have S1' : Sd K B1 H1 σ δ1 F := S1.less fun a z => .inl z
    cases c with
    | false =>
      rw [if_neg Bool.false_ne_true] at p ⊢
      exact p B1 H1 σ F Q S1' fun v M s B2 H2 δ2 e2 f2 S2 w n q => k v M s B2 H2 δ2 (e1.trans e2) (fun a z => (f2 a z).trans (f1 a z)) S2 w n q
    | true =>
      rw [if_pos rfl] at p ⊢
      exact k _ (fun _ => False) (.pu (.bool true)) B1 H1 δ1 e1 f1 (S1'.less fun a z => z.elim id False.elim) ⟨.bl true, fun _ z => z⟩ (fun _ z => z.elim) p
theorem ev_notV {Φ : Slot → List Slot → Prop} (h : EvS K ta δ fun s δ1 => ∃ c, s = .pu (.bool c) ∧ Φ (.pu (.bool (!c))) δ1) : EvS K (tNotV ta) δ Φ :=
  ev_unP (r := fun x H1 Q => ∃ c, x = .bl c ∧ Q (.bl (!c)) H1) (h.imp fun s δ1 ⟨c, e, q⟩ => ⟨.bool c, .bool (!c), .inl e, unP_flat rfl fun B H u Q e d k => ⟨c, dr_bl d, k⟩, q⟩)
theorem ev_if {Φ : Slot → List Slot → Prop} (h : EvT K tt δ fun c δ1 => if c = true then EvS K ta δ1 Φ else EvS K tb δ1 Φ) : EvS K (tIf tt ta tb) δ Φ := fun B H σ F Q S k =>
  h B H σ F _ S fun c B1 H1 δ1 e1 f1 S1 p => by
    cases c with
    | true =>
      rw [if_pos rfl] at p ⊢
      exact p B1 H1 σ F Q S1 fun v M s B2 H2 δ2 e2 f2 S2 w n q => k v M s B2 H2 δ2 (e1.trans e2) (fun a z => (f2 a z).trans (f1 a z)) S2 w n q
    | false =>
      rw [if_neg Bool.false_ne_true] at p ⊢
      exact p B1 H1 σ F Q S1 fun v M s B2 H2 δ2 e2 f2 S2 w n q => k v M s B2 H2 δ2 (e1.trans e2) (fun a z => (f2 a z).trans (f1 a z)) S2 w n q
/-! ### tests -/
theorem et_B {Φ : Bool → List Slot → Prop} (h : EvS K te δ fun s δ1 => ∃ c, s = .pu (.bool c) ∧ Φ c δ1) : EvT K (tB te) δ Φ := fun B H σ F Q S k =>
  h B H σ F _ S fun v M s B1 H1 δ1 e1 f1 S1 w n ⟨c, es, p⟩ => by
    subst es
    exact ⟨c, dp_bl_inv w.1, k c B1 H1 δ1 e1 f1 (S1.less fun a z => .inl z) p⟩
theorem et_test {Φ : Bool → List Slot → Prop} (h : EvS K te δ fun s δ1 => ∃ c, s = .pu (.bool c) ∧ Φ c δ1) : EvT K (tTest te) δ Φ := et_B h
theorem et_and {Φ : Bool → List Slot → Prop} (h : EvT K tt δ fun c δ1 => if c = true then EvT K tu δ1 Φ else Φ false δ1) : EvT K (tAnd tt tu) δ Φ := fun B H σ F Q S k =>
  h B H σ F _ S fun c B1 H1 δ1 e1 f1 S1 p => by
    cases c with
    | true =>
      rw [if_pos rfl] at p ⊢
      exact p B1 H1 σ F Q S1 fun b B2 H2 δ2 e2 f2 S2 q => k b B2 H2 δ2 (e1.trans e2) (fun a z => (f2 a z).trans (f1 a z)) S2 q
    | false =>
      rw [if_neg Bool.false_ne_true] at p ⊢
      exact k false B1 H1 δ1 e1 f1 S1 p
theorem et_or {Φ : Bool → List Slot → Prop} (h : EvT K tt δ fun c δ1 => if c = true then Φ true δ1 else EvT K tu δ1 Φ) : EvT K (tOr tt tu) δ Φ := fun B H σ F Q S k =>
  h B H σ F _ S fun c B1 H1 δ1 e1 f1 S1 p => by
    cases c with
    | false =>
      rw [if_neg Bool.false_ne_true] at p ⊢
      exact p B1 H1 σ F Q S1 fun b B2 H2 δ2 e2 f2 S2 q => k b B2 H2 δ2 (e1.trans e2) (fun a z => (f2 a z).trans (f1 a z)) S2 q
    | true =>
      rw [if_pos rfl] at p ⊢
      exact k true B1 H1 δ1 e1 f1 S1 p
theorem et_not {Φ : Bool → List Slot → Prop} (h : EvT K tt δ fun c δ1 => Φ (!c) δ1) : EvT K (tNot tt) δ Φ := fun B H σ F Q S k =>
  h B H σ F _ S fun c B1 H1 δ1 e1 f1 S1 p => k (!c) B1 H1 δ1 e1 f1 S1 p
/-- a chain of two comparisons of ints -/
theorem ev_chain {g g' : Int → Int → Bool} {Φ : Slot → List Slot → Prop} (h : EvS K ta δ fun s1 δ1 => EvS K tb δ1 fun s2 δ2 => ∃ i j, s1 = .pu (.int i) ∧ s2 = .pu (.int j) ∧ if g i j = true then EvS K tc δ2 (fun s3 δ3 => ∃ k, s3 = .pu (.int k) ∧ Φ (.pu (.bool (g' j k))) δ3) else Φ (.pu (.bool false)) δ2) :
    EvS K (tChain (rI0 fun i j => .bl (g i j)) (rI0 fun i j => .bl (g' i j)) ta tb tc) δ Φ := fun B H σ F Q S k =>
  h B H σ F _ S fun v1 M1 s1 B1 H1 δ1 e1 f1 S1 w1 n1 p1 => p1 B1 H1 σ _ _ S1 fun v2 M2 s2 B2 H2 δ2 e2 f2 S2 w2 n2 ⟨i, j, es1, es2, p⟩ => by
    subst es1 es2
    refine ⟨i, j, dp_int_inv w1.1, dp_int_inv w2.1, _, rfl, ?_⟩
    have S2' : Sd K B2 H2 σ δ2 F := S2.less fun a z => .inl (.inl z)
    have f2' : ∀ a, F a → H2 a = H a := fun a z => (f2 a (.inl z)).trans (f1 a z)
    by_cases hc : g i j = true
    · rw [if_pos hc] at p ⊢
      refine p B2 H2 σ F _ S2' fun v3 M3 s3 B3 H3 δ3 e3 f3 S3 w3 n3 ⟨l, es3, q⟩ => ?_
      subst es3
      exact ⟨j, l, dp_int_inv w2.1, dp_int_inv w3.1, k _ (fun _ => False) (.pu (.bool _)) B3 H3 δ3 ((e1.trans e2).trans e3) (fun a z => (f3 a z).trans (f2' a z)) (S3.less fun a z => z.elim .inl False.elim) ⟨.bl _, fun _ z => z⟩ (fun _ z => z.elim) q⟩
    · rw [if_neg hc] at p ⊢
      exact k _ (fun _ => False) (.pu (.bool _)) B2 H2 δ2 (e1.trans e2) f2' (S2'.less fun a z => z.elim id False.elim) ⟨.bl _, fun _ z => z⟩ (fun _ z => z.elim) p
end
end Dl

namespace Dl
open PySem PySem.Spec PyProof.Rows L2
open Evl (Ex)
/-! ### statements -/
structure Dn where
  nx : List Slot → Prop
  rt : Slot → List Slot → Prop
  bk : List Slot → Prop := fun _ => False
  ct : List Slot → Prop := fun _ => False
/-- what follows, lifted -/
structure Lift (K : PySem.W.Frag) (B H : Hp) (F : Addr → Prop) (Dn : Dn) (D : Ends) : Prop where
  nx : ∀ B2 H2 σ2 δ2, Ex B B2 → (∀ a, F a → H2 a = H a) → Sd K B2 H2 σ2 δ2 F → Dn.nx δ2 → D.nx σ2 H2
  bk : ∀ B2 H2 σ2 δ2, Ex B B2 → (∀ a, F a → H2 a = H a) → Sd K B2 H2 σ2 δ2 F → Dn.bk δ2 → D.bk σ2 H2
  ct : ∀ B2 H2 σ2 δ2, Ex B B2 → (∀ a, F a → H2 a = H a) → Sd K B2 H2 σ2 δ2 F → Dn.ct δ2 → D.ct σ2 H2
  rt : ∀ v M s B2 H2 σ2 δ2, Ex B B2 → (∀ a, F a → H2 a = H a) → Sd K B2 H2 σ2 δ2 (fun a => F a ∨ M a) → VOk K σ2 δ2 B2 H2 v M s → (∀ a, M a → ¬ F a) → Dn.rt s δ2 → D.rt v H2
def ExS (K : PySem.W.Frag) (t : TS) (d : Dn) (δ : List Slot) : Prop :=
  ∀ (B H : Hp) (σ : L2.St) (F : Addr → Prop) (D : Ends), Sd K B H σ δ F → Lift K B H F d D → t D σ H
theorem Lift.step {K : PySem.W.Frag} {B H B2 H2 : Hp} {F : Addr → Prop} {d : Dn} {D : Ends} (L : Lift K B H F d D) (e : Ex B B2) (f : ∀ a, F a → H2 a = H a) : Lift K B2 H2 F d D :=
  ⟨fun B3 H3 σ2 δ2 e2 f2 S h => L.nx B3 H3 σ2 δ2 (e.trans e2) (fun a z => (f2 a z).trans (f a z)) S h, fun B3 H3 σ2 δ2 e2 f2 S h => L.bk B3 H3 σ2 δ2 (e.trans e2) (fun a z => (f2 a z).trans (f a z)) S h,
   fun B3 H3 σ2 δ2 e2 f2 S h => L.ct B3 H3 σ2 δ2 (e.trans e2) (fun a z => (f2 a z).trans (f a z)) S h, fun v M s B3 H3 σ2 δ2 e2 f2 S w n h => L.rt v M s B3 H3 σ2 δ2 (e.trans e2) (fun a z => (f2 a z).trans (f a z)) S w n h⟩
section
variable {K : PySem.W.Frag} {δ : List Slot} {te ta tb tc : TE} {tt : TT} {t u : TS} {d : Dn}
theorem xs_seq (h : ExS K t { d with nx := ExS K u d } δ) : ExS K (tSeq t u) d δ := fun B H σ F D S L =>
  h B H σ F _ S ⟨fun B2 H2 σ2 δ2 e f S2 p => p B2 H2 σ2 F D S2 (L.step e f), L.bk, L.ct, L.rt⟩
theorem xs_next (h : d.nx δ) : ExS K tNext d δ := fun B H σ F D S L => L.nx B H σ δ (Ex.refl _) (fun _ _ => rfl) S h
theorem xs_break (h : d.bk δ) : ExS K tBreak d δ := fun B H σ F D S L => L.bk B H σ δ (Ex.refl _) (fun _ _ => rfl) S h
theorem xs_cont (h : d.ct δ) : ExS K tCont d δ := fun B H σ F D S L => L.ct B H σ δ (Ex.refl _) (fun _ _ => rfl) S h
theorem xs_ret (h : EvS K te δ d.rt) : ExS K (tRet te) d δ := fun B H σ F D S L => h B H σ F _ S fun v M s B2 H2 δ2 e f S2 w n p => L.rt v M s B2 H2 σ δ2 e f S2 w n p
theorem xs_retN (h : d.rt (.pu .none) δ) : ExS K tRetN d δ := fun B H σ F D S L => L.rt .non (fun _ => False) (.pu .none) B H σ δ (Ex.refl _) (fun _ _ => rfl) (S.less fun a z => z.elim id False.elim) ⟨.non, fun _ z => z⟩ (fun _ z => z.elim) h
theorem xs_drop (h : EvS K te δ fun _ δ1 => d.nx δ1) : ExS K (tDrop te) d δ := fun B H σ F D S L => h B H σ F _ S fun v M s B2 H2 δ2 e f S2 w n p => L.nx B2 H2 σ δ2 e f (S2.less fun a z => .inl z) p
theorem xs_if (h : EvT K tt δ fun b δ1 => if b = true then ExS K t d δ1 else ExS K u d δ1) : ExS K (tIfS tt t u) d δ := fun B H σ F D S L =>
  h B H σ F _ S fun b B2 H2 δ2 e f S2 p => by
    cases b with
    | true =>
      rw [if_pos rfl] at p ⊢
      exact p B2 H2 σ F D S2 (L.step e f)
    | false =>
      rw [if_neg Bool.false_ne_true] at p ⊢
      exact p B2 H2 σ F D S2 (L.step e f)
theorem Sd.move {B H : Hp} {σ : L2.St} {F : Addr → Prop} {i j : Nat} {R : Res} {v : V} (S : Sd K B H σ δ F) (hj : δ[j]? = some (.ow R)) (hv : σ[j]? = some (some v)) (hi : i < δ.length) : Sd K B H (σ.set i (some v)) ((δ.set j .non).set i (.ow R)) F := by
  obtain ⟨ms, h1, h2, h3, h4⟩ := S.sl
  have hjl : j < δ.length := (List.getElem?_eq_some_iff.mp hj).1
  obtain ⟨v', e', hP, hb⟩ := h1 j _ hj
  rw [hv] at e'
  cases e'
  have S1 : Sd K B H σ (δ.set j .non) fun a => F a ∨ ms j a := by
    refine ⟨S.bh, by simp [S.len], fun a z => z.elim (S.fb a) (hb a), fun a z => z.elim (S.fl a) (R.live hP a), updM ms j (fun _ => False), fun l s hs => ?_, fun l l2 a q1 q2 => ?_, fun l a q z => ?_, fun l a q => ?_⟩
    · by_cases e : l = j
      · subst e
        rw [List.getElem?_set_self hjl] at hs
        cases hs
        rw [updM_eq rfl]
        exact fun _ z => z
      · rw [List.getElem?_set_ne (Ne.symm e)] at hs
        rw [updM_ne e]
        exact h1 l s hs
    · by_cases e : l = j
      · rw [updM_eq e] at q1; exact q1.elim
      · by_cases e2 : l2 = j
        · rw [updM_eq e2] at q2; exact q2.elim
        · rw [updM_ne e] at q1
          rw [updM_ne e2] at q2
          exact h2 l l2 a q1 q2
    · by_cases e : l = j
      · rw [updM_eq e] at q; exact q
      · rw [updM_ne e] at q
        exact z.elim (h3 l a q) fun z => e (h2 l j a q z)
    · rw [List.length_set]
      by_cases e : l = j
      · rw [updM_eq e] at q; exact q.elim
      · rw [updM_ne e] at q; exact h4 l a q
  exact S1.put_ow hP (fun a q f => h3 j a q f) (by rw [List.length_set]; exact hi)
/-- what a name holds behind a store -/
def asn (i : Nat) (s : Slot) (δ δ2 : List Slot) : Prop := match s with
  | .pu d => δ2 = δ.set i (.pu d)
  | .ow R => δ2 = δ.set i (.ow R)
  | .al j => ∃ R, δ[j]? = some (.ow R) ∧ δ2 = (δ.set j .non).set i (.ow R)
  | .non => False
theorem xs_asg {i : Nat} (h : EvS K te δ fun s δ1 => i < δ1.length ∧ ∃ δ2, asn i s δ1 δ2 ∧ d.nx δ2) : ExS K (tAsg te (gName i)) d δ := fun B H σ F D S L =>
  h B H σ F _ S fun v M s B2 H2 δ1 e f S2 w n ⟨hi, δ2, ha, p⟩ => by
    cases s with
    | non => exact ha.elim
    | pu x =>
      obtain rfl : δ2 = _ := ha
      exact L.nx B2 H2 _ _ e f ((S2.less fun a z => .inl z).put_pu w.1 hi) p
    | ow R =>
      obtain rfl : δ2 = _ := ha
      exact L.nx B2 H2 _ _ e f (S2.put_ow w n hi) p
    | al j =>
      obtain ⟨R, hj, rfl⟩ := ha
      exact L.nx B2 H2 _ _ e f ((S2.less fun a z => .inl z).move hj w.1 hi) p
/-! ### targets of loops -/
def setV (σ : L2.St) : List Nat → List V → L2.St
  | j :: js, u :: us => setV (σ.set j (some u)) js us
  | _, _ => σ
def setD (δ : List Slot) : List (Nat × PyData) → List Slot
  | [] => δ
  | p :: ps => setD (δ.set p.1 (.pu p.2)) ps
theorem setV_len : ∀ {js : List Nat} {us : List V} {σ : L2.St}, (setV σ js us).length = σ.length
  | [], _, _ => by cases ‹List V› <;> rfl
  | _ :: _, [], _ => rfl
  | j :: js, u :: us, σ => by
    show (setV (σ.set j (some u)) js us).length = σ.length
    rw [setV_len, List.length_set]
theorem setV_out {i : Nat} : ∀ {js : List Nat} {us : List V} {σ : L2.St}, i ∉ js → (setV σ js us)[i]? = σ[i]?
  | [], us, _, _ => by cases us <;> rfl
  | _ :: _, [], _, _ => rfl
  | j :: js, u :: us, σ, h => by
    show (setV (σ.set j (some u)) js us)[i]? = σ[i]?
    rw [setV_out fun z => h (List.mem_cons_of_mem _ z), List.getElem?_set_ne (fun z => h (by rw [z]; exact List.mem_cons_self ..))]
theorem setD_len : ∀ {as : List (Nat × PyData)} {δ : List Slot}, (setD δ as).length = δ.length
  | [], _ => rfl
  | p :: ps, δ => by
    show (setD (δ.set p.1 (.pu p.2)) ps).length = δ.length
    rw [setD_len, List.length_set]
theorem setD_out {i : Nat} : ∀ {as : List (Nat × PyData)} {δ : List Slot}, i ∉ as.map (·.1) → (setD δ as)[i]? = δ[i]?
  | [], _, _ => rfl
  | p :: ps, δ, h => by
    show (setD (δ.set p.1 (.pu p.2)) ps)[i]? = δ[i]?
    rw [setD_out fun z => h (List.mem_cons_of_mem _ z), List.getElem?_set_ne (fun z => h (List.mem_map.mpr ⟨p, List.mem_cons_self .., z⟩))]
theorem Sd.puts {B H : Hp} {F : Addr → Prop} : ∀ {as : List (Nat × PyData)} {us : List V} {σ : L2.St} {δ : List Slot}, Sd K B H σ δ F → DpAll K B us (as.map (·.2)) → (∀ p ∈ as, p.1 < δ.length) → Sd K B H (setV σ (as.map (·.1)) us) (setD δ as) F
  | [], us, σ, δ, S, h, _ => by cases h; exact S
  | p :: ps, us, σ, δ, S, h, hl => by
    cases h with
    | @cons u0 ur _ _ r t =>
      show Sd K B H (setV (σ.set p.1 (some u0)) (ps.map (·.1)) ur) (setD (δ.set p.1 (.pu p.2)) ps) F
      exact Sd.puts (S.put_pu r (hl p (List.mem_cons_self ..))) t fun q hq => by rw [List.length_set]; exact hl q (List.mem_cons_of_mem _ hq)
/-- the target g takes the datum d: the names of as are set -/
def TgS (K : PySem.W.Frag) (g : TG) (x : PyData) (as : List (Nat × PyData)) : Prop := ∀ (B H : Hp) (v : V) (σ : L2.St) (Q : L2.St → Hp → Prop), Ex B H → Dp K B v x → (∀ us, DpAll K B us (as.map (·.2)) → Q (setV σ (as.map (·.1)) us) H) → g v σ H Q
theorem tg_name {j : Nat} {x : PyData} : TgS K (gName j) x [(j, x)] := fun B H v σ Q e h k => k [v] (.cons h .nil)
theorem tg_tup2 {a b : Nat} {x y : PyData} : TgS K (gTup K 2 (gCons (gName a) (gCons (gName b) gNil))) (.tuple [x, y]) [(a, x), (b, y)] := fun B H v σ Q e h k => by
  cases h with
  | tup hs ha =>
    cases ha with
    | cons h1 ha =>
      cases ha with
      | cons h2 ha =>
        cases ha
        exact ⟨_, _, rfl, Evl.ex_t e hs, rfl, _, _, rfl, _, _, rfl, rfl, k [_, _] (.cons h1 (.cons h2 .nil))⟩
theorem tg_tup3 {a b c : Nat} {x y z : PyData} : TgS K (gTup K 3 (gCons (gName a) (gCons (gName b) (gCons (gName c) gNil)))) (.tuple [x, y, z]) [(a, x), (b, y), (c, z)] := fun B H v σ Q e h k => by
  cases h with
  | tup hs ha =>
    cases ha with
    | cons h1 ha =>
      cases ha with
      | cons h2 ha =>
        cases ha with
        | cons h3 ha =>
          cases ha
          exact ⟨_, _, rfl, Evl.ex_t e hs, rfl, _, _, rfl, _, _, rfl, _, _, rfl, rfl, k [_, _, _] (.cons h1 (.cons h2 (.cons h3 .nil)))⟩
/-- a, b = e -/
theorem xs_unpack {g : TG} (h : EvD K te δ fun x δ1 => ∃ as, TgS K g x as ∧ (∀ p ∈ as, p.1 < δ1.length) ∧ d.nx (setD δ1 as)) : ExS K (tAsg te g) d δ := fun B H σ F D S L =>
  h B H σ F _ S fun v x B2 H2 δ1 e f S2 hd ⟨as, hg, hl, p⟩ => hg B2 H2 v σ _ S2.bh hd fun us hu => L.nx B2 H2 _ _ e f (S2.puts hu hl) p
/-! ### loops -/
/-- a turn's target and body -/
def Turn1 (K : PySem.W.Frag) (g : TG) (t : TS) (d : Dn) (x : PyData) (nxt : List Slot → Prop) (δ : List Slot) : Prop :=
  ∃ as, TgS K g x as ∧ (∀ p ∈ as, p.1 < δ.length) ∧ ExS K t { d with nx := nxt, ct := nxt, bk := d.nx } (setD δ as)
theorem turn1 {g : TG} {x : PyData} {as : List (Nat × PyData)} {nxt : List Slot → Prop} (hg : TgS K g x as) (hl : ∀ p ∈ as, p.1 < δ.length) (h : ExS K t { d with nx := nxt, ct := nxt, bk := d.nx } (setD δ as)) : Turn1 K g t d x nxt δ := ⟨as, hg, hl, h⟩
theorem turn1_name {j : Nat} {x : PyData} {nxt : List Slot → Prop} (hj : j < δ.length) (h : ExS K t { d with nx := nxt, ct := nxt, bk := d.nx } (δ.set j (.pu x))) : Turn1 K (gName j) t d x nxt δ :=
  ⟨[(j, x)], tg_name, fun p hp => by rw [List.mem_singleton.mp hp]; exact hj, h⟩
theorem for_core {n : Nat} {item : Nat → PyData} {g : TG} {J : It} {B H : Hp} {σ : L2.St} {F : Addr → Prop} {D : Ends} (Pv : Nat → List Slot → Prop) (S : Sd K B H σ δ F) (F0 : Addr → Prop) (hF : ∀ a, F0 a → F a) (L : Lift K B H F0 d D) (h0 : Pv 0 δ)
    (hgo : ∀ i, i < n → ∀ B' H' σ' δ', Ex B B' → (∀ a, F a → H' a = H a) → Sd K B' H' σ' δ' F → Pv i δ' → J.go i H' ∧ ∀ x H2, J.yld i H' x H2 → ∃ B2, Gr B' H' B2 H2 ∧ Dp K B2 x (item i))
    (hst : ∀ B' H' σ' δ', Ex B B' → (∀ a, F a → H' a = H a) → Sd K B' H' σ' δ' F → Pv n δ' → J.stop n H')
    (hs : ∀ i δ', i < n → Pv i δ' → Turn1 K g t d (item i) (Pv (i + 1)) δ') (hd : ∀ δ', Pv n δ' → d.nx δ') :
    ∃ W : Nat → Nat → L2.St → Hp → Prop, (∃ m, W 0 m σ H) ∧ ∀ i m σ H, W i m σ H →
      (J.stop i H ∧ D.nx σ H) ∨ (J.go i H ∧ ∃ N : L2.St → Hp → Prop, (∀ σ' H', N σ' H' → ∃ m', m' < m ∧ W (i + 1) m' σ' H') ∧ ∀ x H', J.yld i H x H' → g x σ H' fun σ2 H2 => t { D with nx := N, ct := N, bk := D.nx } σ2 H2) := by
  refine ⟨fun i m σ' H' => m = n - i ∧ i ≤ n ∧ ∃ B' δ', Ex B B' ∧ (∀ a, F a → H' a = H a) ∧ Sd K B' H' σ' δ' F ∧ Pv i δ', ⟨n, rfl, Nat.zero_le _, B, δ, Ex.refl _, fun _ _ => rfl, S, h0⟩, ?_⟩
  rintro i m σ' H' ⟨rfl, hi, B', δ', e, f, S', p⟩
  by_cases hlt : i < n
  · obtain ⟨g1, g2⟩ := hgo i hlt B' H' σ' δ' e f S' p
    refine .inr ⟨g1, fun σ2 H2 => ∃ B2 δ2, Ex B B2 ∧ (∀ a, F a → H2 a = H a) ∧ Sd K B2 H2 σ2 δ2 F ∧ Pv (i + 1) δ2, fun σ2 H2 ⟨B2, δ2, q⟩ => ⟨n - (i + 1), by omega, rfl, hlt, B2, δ2, q⟩, fun x H2 hy => ?_⟩
    obtain ⟨B2, gr, hx⟩ := g2 x H2 hy
    obtain ⟨as, hg, hl, hb⟩ := hs i δ' hlt p
    have S2 := S'.grow gr
    have f2 : ∀ a, F a → H2 a = H a := fun a z => (ex_eq gr.h (S'.fl a z)).trans (f a z)
    refine hg B2 H2 x σ' _ S2.bh hx fun us hu => ?_
    refine hb B2 H2 _ F _ (S2.puts hu hl) ⟨fun B3 H3 σ3 δ3 e3 f3 S3 q => ⟨B3, δ3, (e.trans gr.b).trans e3, fun a z => (f3 a z).trans (f2 a z), S3, q⟩, fun B3 H3 σ3 δ3 e3 f3 S3 q => ?_,
      fun B3 H3 σ3 δ3 e3 f3 S3 q => ⟨B3, δ3, (e.trans gr.b).trans e3, fun a z => (f3 a z).trans (f2 a z), S3, q⟩, fun v M s B3 H3 σ3 δ3 e3 f3 S3 w n q => ?_⟩
    · exact L.nx B3 H3 σ3 δ3 ((e.trans gr.b).trans e3) (fun a z => (f3 a (hF a z)).trans (f2 a (hF a z))) (S3.less hF) q
    · exact L.rt v M s B3 H3 σ3 δ3 ((e.trans gr.b).trans e3) (fun a z => (f3 a (hF a z)).trans (f2 a (hF a z))) (S3.less fun a z => z.elim (fun z => .inl (hF a z)) .inr) w (fun a z z2 => n a z (hF a z2)) q
  · have e1 : i = n := by omega
    subst e1
    exact .inl ⟨hst B' H' σ' δ' e f S' p, L.nx B' H' σ' δ' e (fun a z => f a (hF a z)) (S'.less hF) (hd δ' p)⟩
theorem xs_forR1 {g : TG} (h : EvS K ta δ fun s δ1 => ∃ k : Int, s = .pu (.int k) ∧ -(2 ^ 62) ≤ k ∧ k < 2 ^ 62 ∧ ∃ Pv : Nat → List Slot → Prop, Pv 0 δ1 ∧ (∀ (i : Nat) δ', i < k.toNat → Pv i δ' → Turn1 K g t d (.int (i : Int)) (Pv (i + 1)) δ') ∧ ∀ δ', Pv k.toNat δ' → d.nx δ') : ExS K (tFor (iRng1 (tCons ta tNil)) g t) d δ := fun B H σ F D S L =>
  h B H σ F _ S fun v M s B2 H2 δ1 e f S2 w n ⟨k, es, hk1, hk2, Pv, h0, hs, hd⟩ => by
    subst es
    refine ⟨k, by rw [dp_int_inv w.1], hk1, hk2, ?_⟩
    refine for_core (n := k.toNat) (item := fun i => .int (i : Int)) Pv (S2.less fun a z => .inl z) F (fun a z => z) (L.step e f) h0 (fun i hi B' H' σ' δ' e' f' S' p => ⟨hi, fun x H3 hy => ?_⟩) (fun B' H' σ' δ' e' f' S' p => by exact Nat.le_refl _) hs hd
    obtain ⟨e1, e2⟩ := hy
    subst e1
    refine ⟨B', Gr.refl S'.bh, ?_⟩
    rw [e2, Int.zero_add]
    exact .int _
theorem xs_forR2 {g : TG} (h : EvS K ta δ fun s δ1 => EvS K tb δ1 fun s2 δ2 => ∃ lo k : Int, s = .pu (.int lo) ∧ s2 = .pu (.int k) ∧ (-(2 ^ 62) ≤ lo ∧ lo < 2 ^ 62 ∧ -(2 ^ 62) ≤ k ∧ k < 2 ^ 62) ∧ ∃ Pv : Nat → List Slot → Prop, Pv 0 δ2 ∧ (∀ (i : Nat) δ', i < (k - lo).toNat → Pv i δ' → Turn1 K g t d (.int (lo + (i : Int))) (Pv (i + 1)) δ') ∧ ∀ δ', Pv (k - lo).toNat δ' → d.nx δ') : ExS K (tFor (iRng2 (tCons ta (tCons tb tNil))) g t) d δ := fun B H σ F D S L =>
  h B H σ F _ S fun v1 M1 s1 B1 H1 δ1 e1 f1 S1 w1 n1 p1 => p1 B1 H1 σ _ _ S1 fun v M s B2 H2 δ2 e f S2 w n ⟨lo, k, es, es2, hk, Pv, h0, hs, hd⟩ => by
    subst es es2
    refine ⟨lo, k, by rw [dp_int_inv w.1, dp_int_inv w1.1], hk, ?_⟩
    refine for_core (n := (k - lo).toNat) (item := fun i => .int (lo + (i : Int))) Pv (S2.less fun a z => .inl (.inl z)) F (fun a z => z) ((L.step e1 f1).step e fun a z => f a (.inl z)) h0 (fun i hi B' H' σ' δ' e' f' S' p => ⟨hi, fun x H3 hy => ?_⟩) (fun B' H' σ' δ' e' f' S' p => by exact Nat.le_refl _) hs hd
    obtain ⟨e1, e2⟩ := hy
    subst e1
    refine ⟨B', Gr.refl S'.bh, ?_⟩
    rw [e2]
    exact .int _
/-- an owned list at a name stays as it is from here on -/
theorem Sd.frz {B H : Hp} {σ : L2.St} {F : Addr → Prop} {j : Nat} {ds : List PyData} (S : Sd K B H σ δ F) (hj : δ[j]? = some (.ow (RL K ds))) : ∃ B2, Ex B B2 ∧ Sd K B2 H σ (δ.set j (.pu (.list ds))) F := by
  obtain ⟨v, M, ev, ⟨p, xs, rfl, hp, ha, hM⟩, hb, hF, k⟩ := S.opn hj
  have hbp : B p = none := hb p ((hM p).mpr rfl)
  have e1 : Ex B (upd B p (.lst xs)) := Ex.new hbp
  have e2 : Ex (upd B p (.lst xs)) H := fun a u q => by
    by_cases e : a = p
    · subst e; rw [upd_same] at q; cases q; exact hp
    · rw [upd_ne e] at q; exact S.bh a u q
  have q := k (upd B p (.lst xs)) H (some (.ref p)) (.pu (.list ds)) (fun _ => False) e1 e2 (fun _ _ h _ => h) (fun a o h => ?_) ⟨_, rfl, .lst (SqL.of upd_same) (dpa_mono e1 _ _ ha), fun _ z => z⟩ (fun _ z => z.elim)
  · rw [set_self ev] at q
    exact ⟨_, e1, q⟩
  · by_cases e : a = p
    · exact .inr (.inr ((hM a).mpr e))
    · rw [upd_ne e] at h; exact .inl h
theorem xs_frz {j : Nat} {ds : List PyData} (hj : δ[j]? = some (.ow (RL K ds))) (h : ExS K t d (δ.set j (.pu (.list ds)))) : ExS K t d δ := fun B H σ F D S L => by
  obtain ⟨B2, e, S2⟩ := S.frz hj
  exact h B2 H σ F D S2 (L.step e fun _ _ => rfl)
theorem ev_frz {j : Nat} {ds : List PyData} {Φ : Slot → List Slot → Prop} (hj : δ[j]? = some (.ow (RL K ds))) (h : EvS K te (δ.set j (.pu (.list ds))) Φ) : EvS K te δ Φ := fun B H σ F Q S L => by
  obtain ⟨B2, e, S2⟩ := S.frz hj
  exact h B2 H σ F Q S2 fun v M s B3 H3 δ3 e3 f3 S3 w n q => L v M s B3 H3 δ3 (e.trans e3) f3 S3 w n q
/-- over a list -/
theorem xs_forL {g : TG} (h : EvD K te δ fun x δ1 => ∃ ds, x = .list ds ∧ ∃ Pv : Nat → List Slot → Prop, Pv 0 δ1 ∧ (∀ (i : Nat) y δ', ds[i]? = some y → Pv i δ' → Turn1 K g t d y (Pv (i + 1)) δ') ∧ ∀ δ', Pv ds.length δ' → d.nx δ') : ExS K (tFor (iList K te) g t) d δ := fun B H σ F D S L =>
  h B H σ F _ S fun v x B2 H2 δ1 e f S2 hd ⟨ds, ex, Pv, h0, hs, hn⟩ => by
    subst ex
    cases hd with
    | @lst p xs _ hq ha =>
      have len := dpa_len ha
      refine ⟨p, rfl, ⟨xs, Evl.ex_l S2.bh hq⟩, ?_⟩
      refine for_core (n := ds.length) (item := fun i => ds.getD i .none) Pv S2 F (fun a z => z) (L.step e f) h0 (fun i hi B' H' σ' δ' e' f' S' p' => ?_) (fun B' H' σ' δ' e' f' S' p' => ?_) (fun i δ' hi q => hs i _ δ' (by rw [List.getD_eq_getElem?_getD, List.getElem?_eq_getElem hi]; rfl) q) hn
      · have hq' : SqL K H' p xs := Evl.ex_l (e'.trans S'.bh) hq
        obtain ⟨w, hw, hdw⟩ := dpa_get ha (List.getElem?_eq_getElem hi)
        refine ⟨⟨xs, w, hq', hw⟩, fun y H3 hy => ?_⟩
        obtain ⟨e1, e2⟩ := hy
        subst e1
        refine ⟨B', Gr.refl S'.bh, ?_⟩
        have e3 := (e2 xs hq').symm.trans hw
        cases e3
        rw [List.getD_eq_getElem?_getD, List.getElem?_eq_getElem hi]
        exact dp_mono e' _ _ hdw
      · exact ⟨xs, Evl.ex_l (e'.trans S'.bh) hq, Nat.le_of_eq len⟩
theorem xs_forT {g : TG} (h : EvD K te δ fun x δ1 => ∃ ds, x = .tuple ds ∧ ∃ Pv : Nat → List Slot → Prop, Pv 0 δ1 ∧ (∀ (i : Nat) y δ', ds[i]? = some y → Pv i δ' → Turn1 K g t d y (Pv (i + 1)) δ') ∧ ∀ δ', Pv ds.length δ' → d.nx δ') : ExS K (tFor (iTup K te) g t) d δ := fun B H σ F D S L =>
  h B H σ F _ S fun v x B2 H2 δ1 e f S2 hd ⟨ds, ex, Pv, h0, hs, hn⟩ => by
    subst ex
    cases hd with
    | @tup p xs _ hq ha =>
      have len := dpa_len ha
      refine ⟨p, rfl, ⟨xs, Evl.ex_t S2.bh hq⟩, ?_⟩
      refine for_core (n := ds.length) (item := fun i => ds.getD i .none) Pv S2 F (fun a z => z) (L.step e f) h0 (fun i hi B' H' σ' δ' e' f' S' p' => ?_) (fun B' H' σ' δ' e' f' S' p' => ?_) (fun i δ' hi q => hs i _ δ' (by rw [List.getD_eq_getElem?_getD, List.getElem?_eq_getElem hi]; rfl) q) hn
      · have hq' : SqT K H' p xs := Evl.ex_t (e'.trans S'.bh) hq
        obtain ⟨w, hw, hdw⟩ := dpa_get ha (List.getElem?_eq_getElem hi)
        refine ⟨⟨xs, w, hq', hw⟩, fun y H3 hy => ?_⟩
        obtain ⟨e1, e2⟩ := hy
        subst e1
        refine ⟨B', Gr.refl S'.bh, ?_⟩
        have e3 := (e2 xs hq').symm.trans hw
        cases e3
        rw [List.getD_eq_getElem?_getD, List.getElem?_eq_getElem hi]
        exact dp_mono e' _ _ hdw
      · exact ⟨xs, Evl.ex_t (e'.trans S'.bh) hq, Nat.le_of_eq len⟩
/-- for i, x in enumerate(a list) -/
theorem xs_forE {g : TG} (h : EvD K te δ fun x δ1 => ∃ ds, x = .list ds ∧ ∃ Pv : Nat → List Slot → Prop, Pv 0 δ1 ∧ (∀ (i : Nat) y δ', ds[i]? = some y → Pv i δ' → Turn1 K g t d (.tuple [.int (i : Int), y]) (Pv (i + 1)) δ') ∧ ∀ δ', Pv ds.length δ' → d.nx δ') : ExS K (tFor (iEnum K (tCons te tNil)) g t) d δ := fun B H σ F D S L =>
  h B H σ F _ S fun v x B2 H2 δ1 e f S2 hd ⟨ds, ex, Pv, h0, hs, hn⟩ => by
    subst ex
    cases hd with
    | @lst p xs _ hq ha =>
      have len := dpa_len ha
      refine ⟨p, xs, rfl, Evl.ex_l S2.bh hq, ?_⟩
      refine for_core (n := ds.length) (item := fun i => .tuple [.int (i : Int), ds.getD i .none]) Pv S2 F (fun a z => z) (L.step e f) h0 (fun i hi B' H' σ' δ' e' f' S' p' => ?_) (fun B' H' σ' δ' e' f' S' p' => ?_) (fun i δ' hi q => hs i _ δ' (by rw [List.getD_eq_getElem?_getD, List.getElem?_eq_getElem hi]; rfl) q) hn
      · have hq' : SqL K H' p xs := Evl.ex_l (e'.trans S'.bh) hq
        obtain ⟨w, hw, hdw⟩ := dpa_get ha (List.getElem?_eq_getElem hi)
        refine ⟨⟨xs, w, hq', hw⟩, fun y H3 hy => ?_⟩
        obtain ⟨T, x', e1, hT, e2, e3⟩ := hy
        subst e1 e2
        have e4 := (e3 xs hq').symm.trans hw
        cases e4
        have gr := Gr.new (o := .tup [.int (i : Nat), w]) S'.bh hT
        refine ⟨_, gr, .tup (SqT.of upd_same) (.cons (.int _) (.cons ?_ .nil))⟩
        rw [List.getD_eq_getElem?_getD, List.getElem?_eq_getElem hi]
        exact dp_mono (e'.trans gr.b) _ _ hdw
      · exact ⟨xs, Evl.ex_l (e'.trans S'.bh) hq, Nat.le_of_eq len⟩
theorem xs_while (W : Nat → List Slot → Prop) (m0 : Nat) (h0 : W m0 δ)
    (hs : ∀ m δ', W m δ' → EvT K tt δ' fun b δ1 => if b = true then ExS K t { d with nx := fun δ2 => ∃ m', m' < m ∧ W m' δ2, ct := fun δ2 => ∃ m', m' < m ∧ W m' δ2, bk := d.nx } δ1 else d.nx δ1) : ExS K (tWhile tt t) d δ := fun B H σ F D S L => by
  refine ⟨fun m σ' H' => ∃ B' δ', Ex B B' ∧ (∀ a, F a → H' a = H a) ∧ Sd K B' H' σ' δ' F ∧ W m δ', ⟨m0, B, δ, Ex.refl _, fun _ _ => rfl, S, h0⟩, ?_⟩
  rintro m σ' H' ⟨B', δ', e, f, S', p⟩
  refine hs m δ' p B' H' σ' F _ S' fun b B2 H2 δ2 e2 f2 S2 q => ?_
  have f2' : ∀ a, F a → H2 a = H a := fun a z => (f2 a z).trans (f a z)
  cases b with
  | true =>
    rw [if_pos rfl] at q ⊢
    refine ⟨fun σ3 H3 => ∃ m', m' < m ∧ ∃ B3 δ3, Ex B B3 ∧ (∀ a, F a → H3 a = H a) ∧ Sd K B3 H3 σ3 δ3 F ∧ W m' δ3, fun σ3 H3 z => z, q B2 H2 σ' F _ S2 ⟨fun B3 H3 σ3 δ3 e3 f3 S3 ⟨m', hm, w⟩ => ⟨m', hm, B3, δ3, (e.trans e2).trans e3, fun a z => (f3 a z).trans (f2' a z), S3, w⟩, fun B3 H3 σ3 δ3 e3 f3 S3 w => ?_,
      fun B3 H3 σ3 δ3 e3 f3 S3 ⟨m', hm, w⟩ => ⟨m', hm, B3, δ3, (e.trans e2).trans e3, fun a z => (f3 a z).trans (f2' a z), S3, w⟩, fun v M s B3 H3 σ3 δ3 e3 f3 S3 w n q => ?_⟩⟩
    · exact L.nx B3 H3 σ3 δ3 ((e.trans e2).trans e3) (fun a z => (f3 a z).trans (f2' a z)) S3 w
    · exact L.rt v M s B3 H3 σ3 δ3 ((e.trans e2).trans e3) (fun a z => (f3 a z).trans (f2' a z)) S3 w n q
  | false =>
    rw [if_neg Bool.false_ne_true] at q ⊢
    exact L.nx B2 H2 σ' δ2 (e.trans e2) f2' S2 q
/-- x op= e, ints -/
theorem xs_aug {i : Nat} {fn : Int → Int → Int} (h : ∃ x : Int, δ[i]? = some (.pu (.int x)) ∧ EvS K te δ fun s δ1 => ∃ y : Int, s = .pu (.int y) ∧ i < δ1.length ∧ d.nx (δ1.set i (.pu (.int (fn x y))))) : ExS K (tAug i te (ipI fn)) d δ := fun B H σ F D S L => by
  obtain ⟨x, hx, h⟩ := h
  obtain ⟨v, ev, hv⟩ := S.pu hx
  refine ⟨v, ev, h B H σ F _ S fun w M s B2 H2 δ2 e f S2 wk n ⟨y, es, hi, q⟩ => ?_⟩
  subst es
  refine ⟨x, y, dp_int_inv hv, dp_int_inv wk.1, L.nx B2 H2 _ _ e f ((S2.less fun a z => .inl z).put_pu (.int _) hi) q⟩
/-- xs[i] = e, the list at the name j -/
theorem xs_setL {j : Nat} (h : EvD K te δ fun x δ1 => ∃ ds, δ1[j]? = some (.ow (RL K ds)) ∧ EvS K tb δ1 fun s δ2 => ∃ (i : Int) (k : Nat), δ2 = δ1 ∧ s = .pu (.int i) ∧ ixN ds.length i = some k ∧ d.nx (δ1.set j (.ow (RL K (ds.set k x))))) : ExS K (tAsg te (gSub (tVar j) tb rSetL)) d δ := fun B H σ F D S L =>
  h B H σ F _ S fun v x B2 H2 δ1 e f S2 hd ⟨ds, hj, p⟩ => by
    obtain ⟨vo, M, ev, hP, _⟩ := S2.opn hj
    refine ⟨vo, ev, p B2 H2 σ F _ S2 fun w Mw s B3 H3 δ3 e3 f3 S3 wk n ⟨i, k, eδ, es, hk, q⟩ => ?_⟩
    subst es eδ
    have S3' : Sd K B3 H3 σ δ3 F := S3.less fun a z => .inl z
    obtain ⟨vo2, M2, ev2, ⟨p2, xs, rfl, hp, ha, hM⟩, hb, hF, op⟩ := S3'.opn hj
    rw [ev] at ev2
    cases ev2
    refine ⟨p2, xs, i, k, rfl, dp_int_inv wk.1, hp, by rw [dpa_len ha]; exact hk, ?_⟩
    have fr : ∀ a, F a → upd H3 p2 (.lst (xs.set k v)) a = H3 a := fun a z => upd_ne fun e => hF a ((hM a).mpr e) z
    have q2 := op B3 (upd H3 p2 (.lst (xs.set k v))) (some (.ref p2)) (.ow (RL K (ds.set k x))) (fun a => a = p2) (Ex.refl _) (fun a u ha' => by
      rw [upd_ne (fun e => by rw [e, hb p2 ((hM p2).mpr rfl)] at ha'; cases ha')]
      exact S3'.bh a u ha') (fun a o ha' nm => by rw [upd_ne (fun e => nm ((hM a).mpr e))]; exact ha') (fun _ _ z => .inl z)
      ⟨_, rfl, ⟨p2, _, rfl, upd_same, dpa_set (dp_mono e3 _ _ hd) k ha, fun _ => Iff.rfl⟩, fun a z => by rw [z]; exact hb p2 ((hM p2).mpr rfl)⟩ (fun a z => .inl ((hM a).mpr z))
    rw [set_self ev] at q2
    exact L.nx B3 _ σ _ (e.trans e3) (fun a z => by rw [fr a z, f3 a z, f a z]) q2 q
end
end Dl

namespace Dl
open PySem PySem.Spec PyProof.Rows L2
open Evl (Ex)
section
variable {K : PySem.W.Frag} {δ : List Slot} {te ta tb tc : TE} {tt : TT} {t u : TS} {d : Dn}
/-! ### methods of lists at names -/
/-- an owned list's content is another one -/
theorem Sd.setL {B H B2 : Hp} {σ : L2.St} {F : Addr → Prop} {j : Nat} {ds ds' : List PyData} {p : Addr} {xs ys : List V} (S : Sd K B H σ δ F) (hj : δ[j]? = some (.ow (RL K ds))) (hv : σ[j]? = some (some (.ref p))) (hy : DpAll K B ys ds') : Sd K B (upd H p (.lst ys)) σ (δ.set j (.ow (RL K ds'))) F ∧ (∀ a, F a → upd H p (.lst ys) a = H a) ∧ ∃ xs, H p = some (.lst xs) ∧ DpAll K B xs ds := by
  obtain ⟨v, M, ev, ⟨p2, xs, rfl, hp, ha, hM⟩, hb, hF, op⟩ := S.opn hj
  rw [hv] at ev
  cases ev
  have q := op B (upd H p (.lst ys)) (some (.ref p)) (.ow (RL K ds')) (fun a => a = p) (Ex.refl _) (fun a u ha' => by
    rw [upd_ne (fun e => by rw [e, hb p ((hM p).mpr rfl)] at ha'; cases ha')]
    exact S.bh a u ha') (fun a o ha' nm => by rw [upd_ne (fun e => nm ((hM a).mpr e))]; exact ha') (fun _ _ z => .inl z)
    ⟨_, rfl, ⟨p, _, rfl, upd_same, hy, fun _ => Iff.rfl⟩, fun a z => by rw [z]; exact hb p ((hM p).mpr rfl)⟩ (fun a z => .inl ((hM a).mpr z))
  rw [set_self hv] at q
  exact ⟨q, fun a z => upd_ne fun e => hF a ((hM a).mpr e) z, xs, hp, ha⟩
theorem ev_append {j : Nat} {Φ : Slot → List Slot → Prop} (h : ∃ R, δ[j]? = some (.ow R) ∧ EvD K te δ fun x δ1 => ∃ ds, δ1[j]? = some (.ow (RL K ds)) ∧ ds.length < 100000 ∧ Φ (.pu .none) (δ1.set j (.ow (RL K (ds ++ [x]))))) (hR : ∀ R, δ[j]? = some (.ow R) → ∃ ds, R = RL K ds) : EvS K (tBM K "list" rAppend (tVar j) (tCons te tNil)) δ Φ := fun B H σ F Q S k => by
  obtain ⟨R, hR0, h⟩ := h
  obtain ⟨ds0, rfl⟩ := hR R hR0
  obtain ⟨v, M, ev, ⟨p, xs0, rfl, hp0, _⟩, _⟩ := S.opn hR0
  refine ⟨_, ev, .inl ⟨rfl, xs0, SqL.of hp0⟩, h B H σ F _ S fun w x B2 H2 δ1 e f S2 hd ⟨ds, hj, hl, q⟩ => ?_⟩
  obtain ⟨_, _, xs, hp, ha⟩ := S2.setL (B2 := B2) (xs := []) (ys := []) (ds' := []) hj ev .nil
  obtain ⟨S3, f3, _⟩ := S2.setL (B2 := B2) (xs := []) hj ev (dpa_append ha (dpa_one hd))
  refine ⟨p, xs, w, rfl, rfl, hp, Evl.sz_lt (by rw [dpa_len ha]; exact hl), ?_⟩
  exact k .non (fun _ => False) (.pu .none) B2 _ _ e (fun a z => (f3 a z).trans (f a z)) (S3.less fun a z => z.elim id False.elim) ⟨.non, fun _ z => z⟩ (fun _ z => z.elim) q
theorem ev_pop {j : Nat} {ds : List PyData} {x : PyData} {Φ : Slot → List Slot → Prop} (hj : δ[j]? = some (.ow (RL K ds))) (hx : ds[ds.length - 1]? = some x) (h : Φ (.pu x) (δ.set j (.ow (RL K ds.dropLast)))) : EvS K (tBM0 K "list" rPop (tVar j)) δ Φ := fun B H σ F Q S k => by
  obtain ⟨v, M, ev, ⟨p, xs, rfl, hp, ha, _⟩, _⟩ := S.opn hj
  obtain ⟨S3, f3, _⟩ := S.setL (B2 := B) (xs := []) hj ev (dpa_dropLast ha)
  obtain ⟨w, hw, hd⟩ := dpa_get ha hx
  exact ⟨_, ev, .inl ⟨rfl, xs, SqL.of hp⟩, p, xs, w, rfl, rfl, hp, by rw [dpa_len ha]; exact hw, k w (fun _ => False) (.pu x) B _ _ (Ex.refl _) f3 (S3.less fun a z => z.elim id False.elim) ⟨hd, fun _ z => z⟩ (fun _ z => z.elim) h⟩
theorem ev_popAt {j : Nat} {Φ : Slot → List Slot → Prop} {ds0 : List PyData} (h0 : δ[j]? = some (.ow (RL K ds0))) (h : EvS K te δ fun s δ1 => ∃ ds, δ1[j]? = some (.ow (RL K ds)) ∧ ∃ (i : Nat) (x : PyData), s = .pu (.int (i : Int)) ∧ ds[i]? = some x ∧ ds.length ≤ 100000 ∧ Φ (.pu x) (δ1.set j (.ow (RL K (ds.eraseIdx i))))) : EvS K (tBM K "list" rPopAt (tVar j) (tCons te tNil)) δ Φ := fun B H σ F Q S k => by
  obtain ⟨v, M, ev, ⟨p, xs0, rfl, hp0, _⟩, _⟩ := S.opn h0
  refine ⟨_, ev, .inl ⟨rfl, xs0, SqL.of hp0⟩, h B H σ F _ S fun w M2 s B2 H2 δ1 e f S2 wk n ⟨ds, hj, i, x, es, hx, hl, q⟩ => ?_⟩
  subst es
  have S2' : Sd K B2 H2 σ δ1 F := S2.less fun a z => .inl z
  obtain ⟨_, _, xs, hp, ha⟩ := S2'.setL (B2 := B2) (xs := []) (ys := []) (ds' := []) hj ev .nil
  obtain ⟨S3, f3, _⟩ := S2'.setL (B2 := B2) (xs := []) hj ev (dpa_erase i ha)
  obtain ⟨y, hy, hd⟩ := dpa_get ha hx
  have hil : i < xs.length := (List.getElem?_eq_some_iff.mp hy).1
  have hxl := dpa_len ha
  refine ⟨p, xs, (i : Int), i, y, rfl, by rw [dp_int_inv wk.1], hp, by omega, by omega, ?_, hy, ?_⟩
  · unfold seqIndex?
    have h1 : ¬ ((i : Int) < 0) := by omega
    simp [h1, hil]
  · exact k y (fun _ => False) (.pu x) B2 _ _ e (fun a z => (f3 a z).trans (f a z)) (S3.less fun a z => z.elim id False.elim) ⟨hd, fun _ z => z⟩ (fun _ z => z.elim) q
/-! ### comprehensions -/
def wipeD (δ : List Slot) : List Nat → List Slot
  | [] => δ
  | v :: vs => (wipeD δ vs).set v .non
theorem wipeD_len : ∀ {vs : List Nat}, (wipeD δ vs).length = δ.length
  | [] => rfl
  | v :: vs => by unfold wipeD; rw [List.length_set, wipeD_len]
theorem Sd.wiped {B H : Hp} {σ : L2.St} {F : Addr → Prop} (S : Sd K B H σ δ F) : ∀ (vs : List Nat), Sd K B H (wipe σ vs) (wipeD δ vs) F
  | [] => S
  | v :: vs => by
    unfold wipe wipeD
    have S1 := Sd.wiped S vs
    by_cases h : v < (wipeD δ vs).length
    · exact S1.put_non h
    · rw [List.set_eq_of_length_le (by rw [S1.len]; omega), List.set_eq_of_length_le (by omega)]
      exact S1
theorem wipe_out {i : Nat} {σ : L2.St} : ∀ {vs : List Nat}, i ∉ vs → (wipe σ vs)[i]? = σ[i]?
  | [], _ => rfl
  | v :: vs, h => by
    unfold wipe
    rw [List.getElem?_set_ne (fun z => h (by rw [← z]; exact List.mem_cons_self ..)), wipe_out fun z => h (List.mem_cons_of_mem _ z)]
theorem wipe_in {i : Nat} {σ : L2.St} : ∀ {vs : List Nat}, i ∈ vs → i < σ.length → (wipe σ vs)[i]? = some none
  | v :: vs, h, hl => by
    unfold wipe
    by_cases e : v = i
    · subst e
      rw [List.getElem?_set_self (by rw [wipe_length]; exact hl)]
    · rw [List.getElem?_set_ne e]
      exact wipe_in ((List.mem_cons.mp h).resolve_left fun z => e z.symm) hl
theorem wipe_ext {σ σ' : L2.St} {vs : List Nat} (hl : σ.length = σ'.length) (h : ∀ i, i ∉ vs → σ[i]? = σ'[i]?) : wipe σ vs = wipe σ' vs := by
  apply List.ext_getElem?
  intro i
  by_cases hi : i ∈ vs
  · by_cases hl2 : i < σ.length
    · rw [wipe_in hi hl2, wipe_in hi (by omega)]
    · rw [List.getElem?_eq_none (by rw [wipe_length]; omega), List.getElem?_eq_none (by rw [wipe_length]; omega)]
  · rw [wipe_out hi, wipe_out hi, h i hi]
theorem wipeD_out {i : Nat} : ∀ {vs : List Nat}, i ∉ vs → (wipeD δ vs)[i]? = δ[i]?
  | [], _ => rfl
  | v :: vs, h => by
    unfold wipeD
    rw [List.getElem?_set_ne (fun z => h (by rw [← z]; exact List.mem_cons_self ..)), wipeD_out fun z => h (List.mem_cons_of_mem _ z)]
/-- the block's names are what they were before -/
theorem Sd.unwipe {B H B2 H2 : Hp} {σ σ2 : L2.St} {δ2 : List Slot} {F F2 : Addr → Prop} {vs : List Nat} (S : Sd K B H σ δ F) (S2 : Sd K B2 H2 σ2 δ2 F2) (e : Ex B B2) (hσ : ∀ i, i ∉ vs → σ2[i]? = σ[i]?) (hδ : ∀ i, i ∉ vs → δ2[i]? = δ[i]?)
    (hv : ∀ i ∈ vs, ∀ s, δ[i]? = some s → s = .non ∨ ∃ d, s = .pu d) : Sd K B2 H2 σ δ F2 := by
  obtain ⟨ms, h1, h2, h3, h4⟩ := S.sl
  obtain ⟨ms2, k1, k2, k3, k4⟩ := S2.sl
  refine ⟨S2.bh, S.len, S2.fb, S2.fl, fun i a => i ∉ vs ∧ i < δ.length ∧ ms2 i a, fun i s hs => ?_, fun i j a q1 q2 => k2 i j a q1.2.2 q2.2.2, fun i a q => k3 i a q.2.2, fun i a q => q.2.1⟩
  by_cases hi : i ∈ vs
  · rcases hv i hi s hs with rfl | ⟨x, rfl⟩
    · exact fun a z => z.1 hi
    · obtain ⟨v, ev, hd, _⟩ := h1 i _ hs
      exact ⟨v, ev, dp_mono e _ _ hd, fun a z => z.1 hi⟩
  · have q := k1 i s (by rw [hδ i hi]; exact hs)
    rw [hσ i hi] at q
    have hil : i < δ.length := (List.getElem?_eq_some_iff.mp hs).1
    cases s with
    | non => exact fun a z => q a z.2.2
    | pu x => obtain ⟨v, ev, hd, hM⟩ := q; exact ⟨v, ev, hd, fun a z => hM a z.2.2⟩
    | ow R =>
      obtain ⟨v, ev, hP, hb⟩ := q
      have eM : (fun a => i ∉ vs ∧ i < δ.length ∧ ms2 i a) = ms2 i := funext fun a => propext ⟨fun z => z.2.2, fun z => ⟨hi, hil, z⟩⟩
      exact ⟨v, ev, by show R.P v B2 H2 (fun a => i ∉ vs ∧ i < δ.length ∧ ms2 i a); rw [eM]; exact hP, fun a z => hb a z.2.2⟩
    | al _ => exact q
/-- one turn of a comprehension: the list so far acc, behind it Pv -/
def TurnC (K : PySem.W.Frag) (g : TG) (tt : TT) (te : TE) (vs : List Nat) (δ : List Slot) (x : PyData) (acc : List PyData) (Pn : List PyData → Prop) : Prop :=
  ∃ as, TgS K g x as ∧ (∀ p ∈ as, p.1 < δ.length ∧ p.1 ∈ vs) ∧ EvT K tt (setD (wipeD δ vs) as) fun b δ1 => (∀ i, i ∉ vs → δ1[i]? = δ[i]?) ∧ if b = true then EvD K te δ1 fun y δ2 => (∀ i, i ∉ vs → δ2[i]? = δ[i]?) ∧ acc.length < 100000 ∧ Pn (acc ++ [y]) else Pn acc
theorem lc_core' {n : Nat} {item : Nat → PyData} {g : TG} {J : It} {vs : List Nat} {B H : Hp} {σ : L2.St} {F F0 : Addr → Prop} {Q : VK} (Pv : Nat → List PyData → Prop) (S : Sd K B H σ δ F) (hF0 : ∀ a, F0 a → F a) (hv : ∀ i ∈ vs, ∀ s, δ[i]? = some s → s = .non ∨ ∃ d, s = .pu d)
    (hgo : ∀ i, i < n → ∀ B' H', Ex B B' → (∀ a, F a → H' a = H a) → Sd K B' H' σ δ F → J.go i H' ∧ ∀ x H2, J.yld i H' x H2 → ∃ B2, Gr B' H' B2 H2 ∧ Dp K B2 x (item i))
    (hst : ∀ B' H', Ex B B' → (∀ a, F a → H' a = H a) → Sd K B' H' σ δ F → J.stop n H')
    (h0 : Pv 0 []) (hs : ∀ i acc, i < n → Pv i acc → TurnC K g tt te vs δ (item i) acc (Pv (i + 1)))
    (hd : ∀ acc v M B2 H2, Pv n acc → Ex B B2 → (∀ a, F a → H2 a = H a) → Sd K B2 H2 σ δ (fun a => F0 a ∨ M a) → (RL K acc).P v B2 H2 M → (∀ a, M a → ¬ F a) → Q v H2) :
    ∀ D, H D = none → ∃ W : Nat → Nat → Hp → Prop, (∃ m, W 0 m (upd H D (.lst []))) ∧ ∀ i m H, W i m H →
  (J.stop i H ∧ Q (.ref D) H) ∨ (J.go i H ∧ ∃ Nx : Hp → Prop, (∀ H', Nx H' → ∃ m', m' < m ∧ W (i + 1) m' H') ∧ ∀ x H', J.yld i H x H' → g x (wipe σ vs) H' fun σ2 H2 => wipe σ2 vs = wipe σ vs ∧ tt σ2 H2 fun b H3 =>
    if b = true then te σ2 H3 fun y H4 => ∃ acc, H4 D = some (.lst acc) ∧ acc.length < sizeLine ∧ Nx (upd H4 D (.lst (acc ++ [y]))) else Nx H3) := by
  intro D hD
  -- what holds between two turns
  let Inv := fun (i : Nat) (H' : Hp) => ∃ B' xs acc, Ex B B' ∧ (∀ a, F a → H' a = H a) ∧ Sd K B' H' σ δ (fun a => F a ∨ a = D) ∧ H' D = some (.lst xs) ∧ DpAll K B' xs acc ∧ Pv i acc
  have nF : ¬ F D := fun z => S.fl D z hD
  refine ⟨fun i m H' => m = n - i ∧ i ≤ n ∧ Inv i H', ⟨n, rfl, Nat.zero_le _, B, [], [], Ex.refl _, fun a z => upd_ne fun e => nF (by rw [← e]; exact z), sd_own S hD, upd_same, .nil, h0⟩, ?_⟩
  rintro i m H' ⟨rfl, hi, B', xs, acc, e, f, S', hx, ha, p⟩
  by_cases hlt : i < n
  · obtain ⟨g1, g2⟩ := hgo i hlt B' H' e f (S'.less fun a z => .inl z)
    refine .inr ⟨g1, Inv (i + 1), fun H2 q => ⟨n - (i + 1), by omega, rfl, hlt, q⟩, fun x H2 hy => ?_⟩
    obtain ⟨B2, gr, hxd⟩ := g2 x H2 hy
    obtain ⟨as, hg, hl, hb⟩ := hs i acc hlt p
    have S2 := S'.grow gr
    have f2 : ∀ a, F a → H2 a = H a := fun a z => (ex_eq gr.h (S'.fl a (.inl z))).trans (f a z)
    have hx2 : H2 D = some (.lst xs) := gr.h _ _ hx
    refine hg B2 H2 x (wipe σ vs) _ S2.bh hxd fun us hu => ?_
    have agree : ∀ j, j ∉ vs → (setV (wipe σ vs) (as.map (·.1)) us)[j]? = σ[j]? := fun j hj => by
      rw [setV_out (fun z => by
        obtain ⟨q, hq, e1⟩ := List.mem_map.mp z
        exact hj (e1 ▸ (hl q hq).2)), wipe_out hj]
    refine ⟨?_, ?_⟩
    · exact wipe_ext (by rw [setV_len, wipe_length]) agree
    · have S3 : Sd K B2 H2 (setV (wipe σ vs) (as.map (·.1)) us) (setD (wipeD δ vs) as) (fun a => F a ∨ a = D) := (S2.wiped vs).puts hu fun q hq => by rw [wipeD_len]; exact (hl q hq).1
      refine hb B2 H2 _ _ _ S3 fun b B3 H3 δ3 e3 f3 S4 ⟨ag, q⟩ => ?_
      have f3' : ∀ a, F a → H3 a = H a := fun a z => (f3 a (.inl z)).trans (f2 a z)
      cases b with
      | true =>
        rw [if_pos rfl] at q ⊢
        refine q B3 H3 _ _ _ S4 fun y yd B4 H4 δ4 e4 f4 S5 hyd ⟨ag4, hlen, pn⟩ => ?_
        have hx4 : H4 D = some (.lst xs) := by rw [f4 D (.inr rfl), f3 D (.inr rfl)]; exact hx2
        have eB : Ex B B4 := ((e.trans gr.b).trans e3).trans e4
        have eB' : Ex B' B4 := (gr.b.trans e3).trans e4
        refine ⟨xs, hx4, Evl.sz_lt (by rw [dpa_len ha]; exact hlen), B4, xs ++ [y], acc ++ [yd], eB, fun a z => ?_, ?_, upd_same, dpa_append (dpa_mono eB' _ _ ha) (dpa_one hyd), pn⟩
        · rw [upd_ne (fun z2 => nF (by rw [← z2]; exact z)), f4 a (.inl z), f3' a z]
        · have S6 : Sd K B4 H4 σ δ (fun a => F a ∨ a = D) := S'.unwipe (vs := vs) S5 eB' agree ag4 hv
          -- D is written
          obtain ⟨ms, h1, h2, h3, h4⟩ := S6.sl
          have hbD : B4 D = none := S6.fb D (.inr rfl)
          have ex : Ex B4 (upd H4 D (.lst (xs ++ [y]))) := fun a u ha' => by
            rw [upd_ne (fun z => by rw [z, hbD] at ha'; cases ha')]
            exact S6.bh a u ha'
          refine ⟨ex, S6.len, S6.fb, fun a z => ?_, ms, fun j s hs => ?_, h2, h3, h4⟩
          · by_cases e5 : a = D
            · rw [e5, upd_same]; exact fun z => nomatch z
            · rw [upd_ne e5]; exact S6.fl a z
          · have q := h1 j s hs
            cases s with
            | non => exact q
            | pu x => exact q
            | ow R =>
              obtain ⟨v, ev, hP, hb'⟩ := q
              exact ⟨v, ev, R.loc hP (Ex.refl _) fun a z => upd_ne fun e5 => h3 j a z (.inr e5), hb'⟩
            | al _ => exact q
      | false =>
        rw [if_neg Bool.false_ne_true] at q ⊢
        have eB' : Ex B' B3 := gr.b.trans e3
        exact ⟨B3, xs, acc, (e.trans gr.b).trans e3, f3', S'.unwipe (vs := vs) S4 eB' agree ag hv, by rw [f3 D (.inr rfl)]; exact hx2, dpa_mono eB' _ _ ha, q⟩
  · have e1 : i = n := by omega
    subst e1
    exact .inl ⟨hst B' H' e f (S'.less fun a z => .inl z), hd acc (.ref D) (fun a => a = D) B' H' p e f (S'.less fun a z => z.elim (fun z => .inl (hF0 a z)) .inr) ⟨D, xs, rfl, hx, ha, fun _ => Iff.rfl⟩ (fun a z z2 => nF (by rw [← z]; exact z2))⟩
/-- what a comprehension asks of the names it wipes -/
def Wip (δ : List Slot) (vs : List Nat) : Prop := ∀ i ∈ vs, ∀ s, δ[i]? = some s → s = .non ∨ ∃ d, s = .pu d
theorem ev_lcR1 {g : TG} {vs : List Nat} {Φ : Slot → List Slot → Prop} (h : EvS K ta δ fun s δ1 => ∃ k : Int, s = .pu (.int k) ∧ -(2 ^ 62) ≤ k ∧ k < 2 ^ 62 ∧ Wip δ1 vs ∧ ∃ Pv : Nat → List PyData → Prop, Pv 0 [] ∧ (∀ (i : Nat) acc, i < k.toNat → Pv i acc → TurnC K g tt te vs δ1 (.int (i : Int)) acc (Pv (i + 1))) ∧ ∀ acc, Pv k.toNat acc → Φ (.ow (RL K acc)) δ1) : EvS K (tLc (iRng1 (tCons ta tNil)) g tt te vs) δ Φ := fun B H σ F Q S kk =>
  h B H σ F _ S fun v M s B2 H2 δ1 e f S2 w n ⟨k, es, hk1, hk2, hw, Pv, h0, hs, hd⟩ => by
    subst es
    have S2' : Sd K B2 H2 σ δ1 F := S2.less fun a z => .inl z
    refine ⟨k, by rw [dp_int_inv w.1], hk1, hk2, ?_⟩
    refine lc_core' (n := k.toNat) (item := fun i => .int (i : Int)) Pv S2' (F0 := F) (fun a z => z) hw (fun i hi B' H' e' f' S' => ⟨hi, fun x H3 hy => ?_⟩) (fun B' H' e' f' S' => by exact Nat.le_refl _) h0 hs (fun acc v M B3 H3 p e3 f3 S3 hP hM => kk v M (.ow (RL K acc)) B3 H3 δ1 (e.trans e3) (fun a z => (f3 a z).trans (f a z)) S3 hP hM (hd acc p))
    obtain ⟨e1, e2⟩ := hy
    subst e1
    refine ⟨B', Gr.refl S'.bh, ?_⟩
    rw [e2, Int.zero_add]
    exact .int _
theorem ev_lcR2 {g : TG} {vs : List Nat} {Φ : Slot → List Slot → Prop} (h : EvS K ta δ fun s δ1 => EvS K tb δ1 fun s2 δ2 => ∃ lo k : Int, s = .pu (.int lo) ∧ s2 = .pu (.int k) ∧ (-(2 ^ 62) ≤ lo ∧ lo < 2 ^ 62 ∧ -(2 ^ 62) ≤ k ∧ k < 2 ^ 62) ∧ Wip δ2 vs ∧ ∃ Pv : Nat → List PyData → Prop, Pv 0 [] ∧ (∀ (i : Nat) acc, i < (k - lo).toNat → Pv i acc → TurnC K g tt te vs δ2 (.int (lo + (i : Int))) acc (Pv (i + 1))) ∧ ∀ acc, Pv (k - lo).toNat acc → Φ (.ow (RL K acc)) δ2) : EvS K (tLc (iRng2 (tCons ta (tCons tb tNil))) g tt te vs) δ Φ := fun B H σ F Q S kk =>
  h B H σ F _ S fun v1 M1 s1 B1 H1 δ1 e1 f1 S1 w1 n1 p1 => p1 B1 H1 σ _ _ S1 fun v M s B2 H2 δ2 e f S2 w n ⟨lo, k, es, es2, hk, hw, Pv, h0, hs, hd⟩ => by
    subst es es2
    have S2' : Sd K B2 H2 σ δ2 F := S2.less fun a z => .inl (.inl z)
    have f' : ∀ a, F a → H2 a = H a := fun a z => (f a (.inl z)).trans (f1 a z)
    refine ⟨lo, k, by rw [dp_int_inv w.1, dp_int_inv w1.1], hk, ?_⟩
    refine lc_core' (n := (k - lo).toNat) (item := fun i => .int (lo + (i : Int))) Pv S2' (F0 := F) (fun a z => z) hw (fun i hi B' H' e' f' S' => ⟨hi, fun x H3 hy => ?_⟩) (fun B' H' e' f' S' => by exact Nat.le_refl _) h0 hs (fun acc v M B3 H3 p e3 f3 S3 hP hM => kk v M (.ow (RL K acc)) B3 H3 δ2 ((e1.trans e).trans e3) (fun a z => (f3 a z).trans (f' a z)) S3 hP hM (hd acc p))
    obtain ⟨e1, e2⟩ := hy
    subst e1
    refine ⟨B', Gr.refl S'.bh, ?_⟩
    rw [e2]
    exact .int _
/-- over a list, also one at a name that goes on to be owned -/
theorem ev_lcL {g : TG} {vs : List Nat} {Φ : Slot → List Slot → Prop} (h : EvS K ta δ fun s δ1 => ∃ ds, den K δ1 s (.list ds) ∧ Wip δ1 vs ∧ ∃ Pv : Nat → List PyData → Prop, Pv 0 [] ∧ (∀ (i : Nat) y acc, ds[i]? = some y → Pv i acc → TurnC K g tt te vs δ1 y acc (Pv (i + 1))) ∧ ∀ acc, Pv ds.length acc → Φ (.ow (RL K acc)) δ1) : EvS K (tLc (iList K ta) g tt te vs) δ Φ := fun B H σ F Q S kk =>
  h B H σ F _ S fun v M s B2 H2 δ1 e f S2 w n ⟨ds, hden, hw, Pv, h0, hs, hd⟩ => by
    obtain ⟨p, xs0, rfl, hq0, ha0⟩ := (den_dr S2 w hden).lst S2.bh
    refine ⟨p, rfl, ⟨xs0, hq0⟩, ?_⟩
    have key : ∀ B' H', Ex B2 B' → (∀ a, (F a ∨ M a) → H' a = H2 a) → Sd K B' H' σ δ1 (fun a => F a ∨ M a) → ∃ xs, SqL K H' p xs ∧ DpAll K B' xs ds := fun B' H' e' f' S' => by
      have w' : VOk K σ δ1 B' H' (.ref p) M s := w.step e' fun a z => f' a (.inr z)
      obtain ⟨p', xs', e1, hq', ha'⟩ := (den_dr S' w' hden).lst S'.bh
      cases e1
      exact ⟨xs', hq', ha'⟩
    refine lc_core' (n := ds.length) (item := fun i => ds.getD i .none) Pv S2 (F0 := F) (fun a z => .inl z) hw (fun i hi B' H' e' f' S' => ?_) (fun B' H' e' f' S' => ?_) h0 (fun i acc hi q => hs i _ acc (by rw [List.getD_eq_getElem?_getD, List.getElem?_eq_getElem hi]; rfl) q) (fun acc v M B3 H3 p e3 f3 S3 hP hM => kk v M (.ow (RL K acc)) B3 H3 δ1 (e.trans e3) (fun a z => (f3 a (.inl z)).trans (f a z)) S3 hP (fun a z z2 => hM a z (.inl z2)) (hd acc p))
    · obtain ⟨xs, hq, ha⟩ := key B' H' e' f' S'
      obtain ⟨w2, hw2, hdw⟩ := dpa_get ha (List.getElem?_eq_getElem hi)
      refine ⟨⟨xs, w2, hq, hw2⟩, fun y H3 hy => ?_⟩
      obtain ⟨e1, e2⟩ := hy
      subst e1
      refine ⟨B', Gr.refl S'.bh, ?_⟩
      have e3 := (e2 xs hq).symm.trans hw2
      cases e3
      rw [List.getD_eq_getElem?_getD, List.getElem?_eq_getElem hi]
      exact hdw
    · obtain ⟨xs, hq, ha⟩ := key B' H' e' f' S'
      exact ⟨xs, hq, Nat.le_of_eq (dpa_len ha)⟩
theorem ev_lcT {g : TG} {vs : List Nat} {Φ : Slot → List Slot → Prop} (h : EvS K ta δ fun s δ1 => ∃ ds, s = .pu (.tuple ds) ∧ Wip δ1 vs ∧ ∃ Pv : Nat → List PyData → Prop, Pv 0 [] ∧ (∀ (i : Nat) y acc, ds[i]? = some y → Pv i acc → TurnC K g tt te vs δ1 y acc (Pv (i + 1))) ∧ ∀ acc, Pv ds.length acc → Φ (.ow (RL K acc)) δ1) : EvS K (tLc (iTup K ta) g tt te vs) δ Φ := fun B H σ F Q S kk =>
  h B H σ F _ S fun v M s B2 H2 δ1 e f S2 w n ⟨ds, es, hw, Pv, h0, hs, hd⟩ => by
    subst es
    have S2' : Sd K B2 H2 σ δ1 F := S2.less fun a z => .inl z
    have hd0 := w.1
    cases hd0 with
    | @tup p xs _ hq ha =>
      refine ⟨p, rfl, ⟨xs, Evl.ex_t S2.bh hq⟩, ?_⟩
      refine lc_core' (n := ds.length) (item := fun i => ds.getD i .none) Pv S2' (F0 := F) (fun a z => z) hw (fun i hi B' H' e' f' S' => ?_) (fun B' H' e' f' S' => ?_) h0 (fun i acc hi q => hs i _ acc (by rw [List.getD_eq_getElem?_getD, List.getElem?_eq_getElem hi]; rfl) q) (fun acc v M B3 H3 p e3 f3 S3 hP hM => kk v M (.ow (RL K acc)) B3 H3 δ1 (e.trans e3) (fun a z => (f3 a z).trans (f a z)) S3 hP hM (hd acc p))
      · have hq' : SqT K H' p xs := Evl.ex_t (e'.trans S'.bh) hq
        obtain ⟨w2, hw2, hdw⟩ := dpa_get ha (List.getElem?_eq_getElem hi)
        refine ⟨⟨xs, w2, hq', hw2⟩, fun y H3 hy => ?_⟩
        obtain ⟨e1, e2⟩ := hy
        subst e1
        refine ⟨B', Gr.refl S'.bh, ?_⟩
        have e3 := (e2 xs hq').symm.trans hw2
        cases e3
        rw [List.getD_eq_getElem?_getD, List.getElem?_eq_getElem hi]
        exact dp_mono e' _ _ hdw
      · exact ⟨xs, Evl.ex_t (e'.trans S'.bh) hq, Nat.le_of_eq (dpa_len ha)⟩
theorem et_yes {Φ : Bool → List Slot → Prop} (h : Φ true δ) : EvT K tYes δ Φ := fun B H σ F Q S k => k true B H δ (Ex.refl _) (fun _ _ => rfl) S h
end
end Dl

namespace Dl
open PySem PySem.Spec PyProof.Rows L2
open Evl (Ex)
/-! ### results of defs -/
inductive Rt where
  | d (z : PyData) | l (zs : List PyData)
def Rt.slot (K : PySem.W.Frag) : Rt → Slot
  | .d z => .pu z
  | .l zs => .ow (RL K zs)
def Rt.flat : Rt → Bool
  | .d z => flatD z
  | .l zs => zs.all flatD
def RtOk (K : PySem.W.Frag) (H B2 H2 : Hp) (v : V) : Rt → Prop
  | .d z => Dp K B2 v z
  | .l zs => ∃ p xs, v = .ref p ∧ H p = none ∧ B2 p = none ∧ H2 p = some (.lst xs) ∧ DpAll K B2 xs zs
/-- a def that changes nothing: data in, data or a new list out -/
def spP (K : PySem.W.Frag) (n : Nat) (pre : List PyData → Prop) (T : List PyData → Rt → Prop) : Sp := fun vs H Q _ =>
  ∃ B ds, Ex B H ∧ DpAll K B vs ds ∧ ds.length = n ∧ pre ds ∧ ∀ v B2 H2 r, Gr B H B2 H2 → RtOk K H B2 H2 v r → T ds r → Q v H2
theorem spP_len {K : PySem.W.Frag} {n : Nat} {pre : List PyData → Prop} {T : List PyData → Rt → Prop} {vs : List V} {H : Hp} {Q : VK} {E : XK} (h : spP K n pre T vs H Q E) : vs.length = n := by
  obtain ⟨B, ds, _, ha, hn, _⟩ := h
  rw [dpa_len ha, hn]
section
variable {K : PySem.W.Frag} {δ : List Slot} {te ta tb tc : TE} {tr : TA} {tt : TT} {t u : TS} {d : Dn}
theorem sd_fresh {B H B3 H3 : Hp} {σ : L2.St} {F : Addr → Prop} {p : Addr} (S : Sd K B H σ δ F) (g : Gr B H B3 H3) (hp : H p = none) (hb : B3 p = none) (h3 : H3 p ≠ none) : Sd K B3 H3 σ δ fun a => F a ∨ a = p := by
  have S2 := S.grow g
  obtain ⟨ms, h1, h2, h3', h4⟩ := S.sl
  refine ⟨S2.bh, S2.len, fun a ha => ?_, fun a ha => ?_, ms, fun i s hs => (h1 i s hs).grow g, h2, fun i a q z => ?_, h4⟩
  · rcases ha with z | rfl
    · exact S2.fb a z
    · exact hb
  · rcases ha with z | rfl
    · exact S2.fl a z
    · exact h3
  · rcases z with z | rfl
    · exact h3' i a q z
    · have hl := h4 i a q
      have q2 := h1 i δ[i] (List.getElem?_eq_getElem hl)
      cases e : δ[i] with
      | non => rw [e] at q2; exact q2 a q
      | pu d => rw [e] at q2; obtain ⟨_, _, _, z⟩ := q2; exact z a q
      | ow R => rw [e] at q2; obtain ⟨_, _, hP, _⟩ := q2; exact R.live hP a q hp
      | al j => rw [e] at q2; exact q2
theorem ev_call {n : Nat} {pre : List PyData → Prop} {T : List PyData → Rt → Prop} {E : XK} {Φ : Slot → List Slot → Prop} (h : EvDs K tr δ fun ds δ1 => ds.length = n ∧ pre ds ∧ ∀ r, T ds r → Φ (r.slot K) δ1) : EvS K (tCall (spP K n pre T) [] E tr) δ Φ := fun B H σ F Q S k =>
  h B H σ F _ S fun vs ds B2 H2 δ1 e f S2 ha ⟨hn, hp, q⟩ => by
    show spP K n pre T (vs ++ []) H2 Q E
    rw [List.append_nil]
    refine ⟨B2, ds, S2.bh, ha, hn, hp, fun v B3 H3 r g hr hT => ?_⟩
    have f3 : ∀ a, F a → H3 a = H a := fun a z => (ex_eq g.h (S2.fl a z)).trans (f a z)
    cases r with
    | d z => exact k v (fun _ => False) (.pu z) B3 H3 δ1 (e.trans g.b) f3 ((S2.grow g).less fun a z => z.elim id False.elim) ⟨hr, fun _ z => z⟩ (fun _ z => z.elim) (q _ hT)
    | l zs =>
      obtain ⟨p, xs, rfl, hp, hb, h3, hx⟩ := hr
      exact k (.ref p) (fun a => a = p) (.ow (RL K zs)) B3 H3 δ1 (e.trans g.b) f3 (sd_fresh S2 g hp hb (by rw [h3]; exact fun z => nomatch z)) ⟨p, xs, rfl, h3, hx, fun _ => Iff.rfl⟩ (fun a z z2 => S2.fl a z2 (by rw [z]; exact hp)) (q _ hT)
/-! arguments that may be lists at names; flat results -/
theorem ea_nil {Φ : List Slot → List Slot → Prop} (h : Φ [] δ) : EvA K tNil δ Φ := fun B H σ F Q S k => k [] (fun _ => False) [] B H δ (Ex.refl _) (fun _ _ => rfl) (S.less fun a z => z.elim id False.elim) .nil (fun _ z => z.elim) h
theorem ea_cons {Φ : List Slot → List Slot → Prop} (h : EvS K ta δ fun s δ1 => EvA K tr δ1 fun ss δ2 => Φ (s :: ss) δ2) : EvA K (tCons ta tr) δ Φ := fun B H σ F Q S k =>
  h B H σ F _ S fun v M s B1 H1 δ1 e1 f1 S1 w1 n1 p1 => p1 B1 H1 σ _ _ S1 fun vs M2 ss B2 H2 δ2 e2 f2 S2 w2 n2 p2 =>
    k (v :: vs) (fun a => M a ∨ M2 a) (s :: ss) B2 H2 δ2 (e1.trans e2) (fun a z => (f2 a (.inl z)).trans (f1 a z)) (S2.less fun a z => z.elim (fun z => .inl (.inl z)) fun z => z.elim (fun z => .inl (.inr z)) .inr) (.cons (w1.step e2 fun a z => f2 a (.inr z)) (fun a z z2 => n2 a z2 (.inr z)) w2) (fun a z f => z.elim (fun z => n1 a z f) fun z => n2 a z (.inl f)) p2
/-- the arguments denote data now -/
inductive DenA (K : PySem.W.Frag) (δ : List Slot) : List Slot → List PyData → Prop
  | nil : DenA K δ [] []
  | cons {s : Slot} {d : PyData} {ss : List Slot} {ds : List PyData} : den K δ s d → DenA K δ ss ds → DenA K δ (s :: ss) (d :: ds)
theorem aok_dp {B H : Hp} {σ : L2.St} {ss : List Slot} {F' : Addr → Prop} {vs : List V} {M : Addr → Prop} (S : Sd K B H σ δ F') (h : AOk K σ δ B H vs ss M) : ∀ {ds : List PyData}, DenA K δ ss ds → DpAll K H vs ds := by
  induction h with
  | nil => intro ds hd; cases hd; exact .nil
  | cons h1 h2 h3 ih =>
    intro ds hd
    cases hd with
    | cons a b => exact .cons ((den_dr S h1 a).dp S.bh) (ih b)
theorem ev_callF {n : Nat} {pre : List PyData → Prop} {T : List PyData → Rt → Prop} {E : XK} {Φ : Slot → List Slot → Prop} (h : EvA K tr δ fun ss δ1 => ∃ ds, DenA K δ1 ss ds ∧ ds.length = n ∧ pre ds ∧ ∀ r, T ds r → r.flat = true ∧ Φ (r.slot K) δ1) : EvS K (tCall (spP K n pre T) [] E tr) δ Φ := fun B H σ F Q S k =>
  h B H σ F _ S fun vs M ss B2 H2 δ1 e f S2' w nn ⟨ds, hds, hn, hp, q⟩ => by
    show spP K n pre T (vs ++ []) H2 Q E
    rw [List.append_nil]
    have ha := aok_dp S2' w hds
    have S2 : Sd K B2 H2 σ δ1 F := S2'.less fun a z => .inl z
    refine ⟨H2, ds, Ex.refl _, ha, hn, hp, fun v B3 H3 r g' hr hT => ?_⟩
    have g : Gr B2 H2 B2 H3 := ⟨Ex.refl _, g'.h, S2.bh.trans g'.h, fun _ _ z => .inl z⟩
    have f3 : ∀ a, F a → H3 a = H a := fun a z => (ex_eq g.h (S2.fl a z)).trans (f a z)
    obtain ⟨fl, qq⟩ := q r hT
    cases r with
    | d z => exact k v (fun _ => False) (.pu z) B2 H3 δ1 e f3 ((S2.grow g).less fun a z => z.elim id False.elim) ⟨dp_any fl hr, fun _ z => z⟩ (fun _ z => z.elim) qq
    | l zs =>
      obtain ⟨p, xs, rfl, hp, hb, h3, hx⟩ := hr
      exact k (.ref p) (fun a => a = p) (.ow (RL K zs)) B2 H3 δ1 e f3 (sd_fresh S2 g hp (exnone S2.bh hp) (by rw [h3]; exact fun z => nomatch z)) ⟨p, xs, rfl, h3, dpa_any fl hx, fun _ => Iff.rfl⟩ (fun a z z2 => S2.fl a z2 (by rw [z]; exact hp)) qq
/-! ### a def's body keeps its promise -/
def RtS (K : PySem.W.Frag) (T : Rt → Prop) (s : Slot) (δ : List Slot) : Prop :=
  (∃ z, s = .pu z ∧ T (.d z)) ∨ ∃ zs, (s = .ow (RL K zs) ∨ ∃ i, s = .al i ∧ δ[i]? = some (.ow (RL K zs))) ∧ T (.l zs)
theorem rt_d {T : Rt → Prop} {z : PyData} (h : T (.d z)) : RtS K T (.pu z) δ := .inl ⟨z, rfl, h⟩
theorem rt_l {T : Rt → Prop} {zs : List PyData} (h : T (.l zs)) : RtS K T (.ow (RL K zs)) δ := .inr ⟨zs, .inl rfl, h⟩
theorem rt_al {T : Rt → Prop} {i : Nat} {zs : List PyData} (hi : δ[i]? = some (.ow (RL K zs))) (h : T (.l zs)) : RtS K T (.al i) δ := .inr ⟨zs, .inr ⟨i, rfl, hi⟩, h⟩
theorem nn_of {H : Hp} {a : Addr} {o : HO} (h : H a = some o) : H a ≠ none := by rw [h]; exact fun z => nomatch z
def FrB (B H : Hp) (a : Addr) : Prop := H a ≠ none ∧ B a = none
theorem sd_start {B H : Hp} {vs : List V} {ds : List PyData} {N : List Str} (e : Ex B H) (ha : DpAll K B vs ds) : Sd K B H (L2.start N vs) (ds.map Slot.pu ++ List.replicate (N.length - ds.length) Slot.non) (FrB B H) := by
  have hl := dpa_len ha
  refine ⟨e, by unfold L2.start; simp [hl], fun a z => z.2, fun a z => z.1, fun _ _ => False, fun i s hs => ?_, fun _ _ _ z => z.elim, fun _ _ z => z.elim, fun _ _ z => z.elim⟩
  unfold L2.start
  by_cases h : i < ds.length
  · rw [List.getElem?_append_left (by rw [List.length_map]; exact h), List.getElem?_map] at hs
    cases hd : ds[i]? with
    | none => rw [hd] at hs; cases hs
    | some x =>
      rw [hd] at hs
      cases hs
      obtain ⟨v, hv, hx⟩ := dpa_get ha hd
      rw [List.getElem?_append_left (by rw [List.length_map, hl]; exact h), List.getElem?_map, hv]
      exact ⟨v, rfl, hx, fun _ z => z⟩
  · rw [List.getElem?_append_right (by rw [List.length_map]; omega)] at hs
    have e1 := List.mem_of_getElem? hs
    rw [List.eq_of_mem_replicate e1]
    exact fun _ z => z
theorem gr_end {B H B2 H2 : Hp} {σ : L2.St} (eB : Ex B H) (e : Ex B B2) (f : ∀ a, FrB B H a → H2 a = H a) (S : Sd K B2 H2 σ δ (FrB B H)) : Gr B H B2 H2 := by
  refine ⟨e, fun a o h => ?_, S.bh, fun a o h => ?_⟩
  · cases hb : B a with
    | none => rw [f a ⟨nn_of h, hb⟩]; exact h
    | some o' =>
      have e1 := eB a o' hb
      rw [h] at e1
      cases e1
      exact S.bh a o (e a o hb)
  · cases hb : B a with
    | some o' => exact .inl (by rw [e a o' hb] at h; exact h)
    | none =>
      refine .inr ?_
      cases hh : H a with
      | none => rfl
      | some u => rw [S.fb a ⟨nn_of hh, hb⟩] at h; cases h
theorem body_P {n : Nat} {pre : List PyData → Prop} {T : List PyData → Rt → Prop} {N : List Str} {vs : List V} {H : Hp} {Q : VK} {E : XK} (h : spP K n pre T vs H Q E)
    (hx : ∀ ds, ds.length = n → pre ds → ExS K t { nx := fun _ => T ds (.d .none), rt := RtS K (T ds) } (ds.map Slot.pu ++ List.replicate (N.length - ds.length) Slot.non)) : t { nx := fun _ H' => Q .non H', rt := Q } (L2.start N vs) H := by
  obtain ⟨B, ds, eB, ha, hn, hp, q⟩ := h
  refine hx ds hn hp B H (L2.start N vs) (FrB B H) _ (sd_start eB ha) ⟨fun B2 H2 σ2 δ2 e f S p => q .non B2 H2 (.d .none) (gr_end eB e f S) .non p, fun _ _ _ _ _ _ _ z => z.elim, fun _ _ _ _ _ _ _ z => z.elim, fun v M s B2 H2 σ2 δ2 e f S w n p => ?_⟩
  have S' : Sd K B2 H2 σ2 δ2 (FrB B H) := S.less fun a z => .inl z
  have g := gr_end eB e f S'
  rcases p with ⟨z, rfl, hT⟩ | ⟨zs, hs, hT⟩
  · exact q v B2 H2 (.d z) g w.1 hT
  · rcases hs with rfl | ⟨i, rfl, hi⟩
    · obtain ⟨p, xs, rfl, h3, hx, hM⟩ := w
      have hb : B2 p = none := S.fb p (.inr ((hM p).mpr rfl))
      refine q _ B2 H2 (.l zs) g ⟨p, xs, rfl, ?_, hb, h3, hx⟩ hT
      cases hh : H p with
      | none => rfl
      | some u => exact absurd ⟨nn_of hh, exnone e hb⟩ (n p ((hM p).mpr rfl))
    · obtain ⟨v', M', ev, ⟨p, xs, rfl, h3, hx, hM⟩, hb, hF, _⟩ := S'.opn hi
      rw [w.1] at ev
      cases ev
      have hb' : B2 p = none := hb p ((hM p).mpr rfl)
      refine q _ B2 H2 (.l zs) g ⟨p, xs, rfl, ?_, hb', h3, hx⟩ hT
      cases hh : H p with
      | none => rfl
      | some u => exact absurd ⟨nn_of hh, exnone e hb'⟩ (hF p ((hM p).mpr rfl))
end
/-! ### a def by its name -/
structure Cal (P : Program) (w : World) (K : PySem.W.Frag) (mg : Str → Option Value) (base : Heap) (k : Nat) (x : Str) (sp : Sp) : Prop where
  ex : ∃ (f : Addr) (fd : FuncData) (ps : List Str), FnOk P w K mg base CX0 k f fd ps sp ∧ mg x = some (.ref f) ∧ PySem.W.keepIn K (.ref f) = true ∧ Binds K fd ps []
theorem pe_c {X : Cx} {k j : Nat} {x : Str} {sp : Sp} {p pos : Pos} {e : Expr} {es : List Expr} {t : TA} (c : Cal X.prog X.w X.K X.mg X.base k x sp) (hr : Room j X.A) (ha : PA X (e :: es) t) (hk : k ≤ j := by decide) (hg : Gl X x := by rfl)
    (hdb : (x == ("__debug__" : Str)) = false := by decide) (he : starEach (e :: es) X.env = (false, eval e X.env) :: starEach es X.env := by rfl) (hpl : (backTo pos (starEach es X.env)).any (·.1) = false := by rfl) :
    PE X (.Call (.Name x p) (e :: es) [] pos) (tCall sp [] E0 t) := by
  obtain ⟨f, fd, ps, F, hm, kp, b⟩ := c.ex
  exact pe_call F (hr.mono hk) hg hm kp b .nil pass0 ha hdb he hpl
theorem cal_P {P : Program} {w : World} {K : PySem.W.Frag} {mg : Str → Option Value} {base : Heap} {x : Str} {st : Stmt} {f : Addr} {fd : FuncData} {N ps : List Str} {k n : Nat} {pre : List PyData → Prop} {T : List PyData → Rt → Prop}
    (F : Fun K x x st f fd) (hm : mg x = some (.ref f)) (hb : Binds K fd ps []) (S : FnScope N ps (defScope st)) (hn : ps.length = n := by rfl)
    (hbody : ∀ (cdv : Value) (A : Around) (outer : List Env) (s : Shared) (H : Hp) (E : XK), Room k (A.deeper (envOfC x (defScope st) s.heap.objs.size f cdv)) →
      ∃ t, PSs (cxOf CX0 P w K mg base N x (defScope st) f cdv A outer s H E).nox (defBody st) t ∧ ∀ ds, ds.length = n → pre ds → ExS K t { nx := fun _ => T ds (.d .none), rt := RtS K (T ds) } (ds.map Slot.pu ++ List.replicate (N.length - ds.length) Slot.non)) : Cal P w K mg base (k + 1) x (spP K n pre T) := by
  refine ⟨f, fd, ps, F.ok S (fun vs H Q E h => by rw [spP_len h, hn]) (fun cdv A outer s H vs Q E hr h => ?_), hm, F.kp, hb⟩
  obtain ⟨t, ht, hx⟩ := hbody cdv A outer s H E hr
  exact ⟨t, ht, body_P h hx⟩
end Dl

namespace Dl
open PySem PySem.Spec PyProof.Rows L2
open Evl (Ex)
section
variable {K : PySem.W.Frag} {δ : List Slot} {te ta tb tc : TE} {tr : TA} {tt : TT} {t u : TS} {d : Dn} {Φ : Slot → List Slot → Prop}
theorem dr_seq {B H : Hp} {v : V} {ds : List PyData} (e : Ex B H) (h : Dr K B H v (.list ds) ∨ Dr K B H v (.tuple ds)) : ∃ p xs, v = .ref p ∧ (SqL K H p xs ∨ SqT K H p xs) ∧ DpAll K B xs ds := by
  rcases h with h | h
  · obtain ⟨p, xs, rfl, a, b⟩ := h.lst e
    exact ⟨p, xs, rfl, .inl a, b⟩
  · obtain ⟨p, xs, rfl, a, b⟩ := h.tup e
    exact ⟨p, xs, rfl, .inr a, b⟩
/-- a call of a built-in with one argument, as an operation -/
theorem ev_cb1P {r : List V → Hp → VK → Prop} (h : EvS K ta δ fun s δ1 => ∃ x z, den K δ1 s x ∧ UnP K (fun v => r [v]) x z ∧ Φ (.pu z) δ1) : EvS K (tCB r (tCons ta tNil)) δ Φ := ev_unP (r := fun v => r [v]) h
theorem ev_cb1L {r : List V → Hp → VK → Prop} (h : EvS K ta δ fun s δ1 => ∃ x zs, den K δ1 s x ∧ UnL K (fun v => r [v]) x zs ∧ Φ (.ow (RL K zs)) δ1) : EvS K (tCB r (tCons ta tNil)) δ Φ := ev_unL (r := fun v => r [v]) h
/-- .. whose result is one of several -/
theorem ev_unA {r : R1} (h : EvS K ta δ fun s1 δ1 => ∃ x, den K δ1 s1 x ∧ ∃ T : PyData → Prop, (∀ (B H : Hp) (u : V) (Q : VK), Ex B H → Dr K B H u x → (∀ z, T z → flatD z = true → Q (valD z) H) → r u H Q) ∧ ∀ z, T z → Φ (.pu z) δ1) : EvS K (fun σ H Q => ta σ H fun x H1 => r x H1 Q) δ Φ := fun B H σ F Q S k =>
  h B H σ F _ S fun v2 M2 s2 B2 H2 δ2 e2 f2 S2 w2 n2 ⟨x, hd, T, hO, q⟩ => hO B2 H2 v2 Q S2.bh (den_dr S2 w2 hd) fun z hT fz =>
    k _ (fun _ => False) (.pu z) B2 H2 δ2 e2 f2 (S2.less fun a z => z.elim .inl False.elim) ⟨dp_flat fz, fun _ z => z⟩ (fun _ z => z.elim) (q z hT)
/-- .. a new list, one of several -/
theorem ev_unAL {r : R1} (h : EvS K ta δ fun s1 δ1 => ∃ x, den K δ1 s1 x ∧ ∃ T : List PyData → Prop, (∀ (B H : Hp) (u : V) (Q : VK), Ex B H → Dr K B H u x → (∀ zs p xs, T zs → H p = none → DpAll K B xs zs → Q (.ref p) (upd H p (.lst xs))) → r u H Q) ∧ ∀ zs, T zs → Φ (.ow (RL K zs)) δ1) : EvS K (fun σ H Q => ta σ H fun x H1 => r x H1 Q) δ Φ := fun B H σ F Q S k =>
  h B H σ F _ S fun v2 M2 s2 B2 H2 δ2 e2 f2 S2 w2 n2 ⟨x, hd, T, hO, q⟩ => by
    have SF : Sd K B2 H2 σ δ2 F := S2.less fun a ha => .inl ha
    refine hO B2 H2 v2 Q S2.bh (den_dr S2 w2 hd) fun zs p xs hT hp hz => ?_
    refine k (.ref p) (fun a => a = p) (.ow (RL K zs)) B2 _ δ2 e2 (fun a ha => ?_) (sd_own SF hp) (rl_new hz) (fun a ha f => ?_) (q zs hT)
    · rw [upd_ne (fun z => SF.fl a ha (by rw [z]; exact hp)), f2 a ha]
    · rw [ha] at f; exact SF.fl p f hp
theorem den2 {B H : Hp} {v : V} {s : Slot} {ds : List PyData} (h : den K δ s (.list ds) ∨ den K δ s (.tuple ds)) : ∃ x, den K δ s x ∧ ∀ B H v, Dr K B H v x → Dr K B H v (.list ds) ∨ Dr K B H v (.tuple ds) := by
  rcases h with h | h
  · exact ⟨_, h, fun _ _ _ z => .inl z⟩
  · exact ⟨_, h, fun _ _ _ z => .inr z⟩
theorem ev_len (h : EvS K ta δ fun s δ1 => ∃ ds, (den K δ1 s (.list ds) ∨ den K δ1 s (.tuple ds)) ∧ Φ (.pu (.int (ds.length : Int))) δ1) : EvS K (tCB (fun xs H Q => ∃ p ys, xs = [.ref p] ∧ (SqL K H p ys ∨ SqT K H p ys) ∧ Q (.int ys.length) H) (tCons ta tNil)) δ Φ :=
  ev_cb1P (h.imp fun s δ1 ⟨ds, h1, q⟩ => by
    obtain ⟨x, hx, k⟩ := den2 (B := fun _ => none) (H := fun _ => none) (v := .non) h1
    refine ⟨x, .int (ds.length : Int), hx, unP_flat rfl fun B H u Q e dd kk => ?_, q⟩
    obtain ⟨p, xs, rfl, hs, ha⟩ := dr_seq e (k B H u dd)
    refine ⟨p, xs, rfl, hs, ?_⟩
    rw [dpa_len ha]
    exact kk)
theorem ev_lenS (h : EvS K ta δ fun s δ1 => ∃ z : Str, s = .pu (.str z) ∧ z.length ≤ sizeLine ∧ Φ (.pu (.int (z.length : Int))) δ1) : EvS K (tCB (fun xs H Q => ∃ z, xs = [.str z] ∧ z.length ≤ sizeLine ∧ Q (.int z.length) H) (tCons ta tNil)) δ Φ :=
  ev_cb1P (h.imp fun s δ1 ⟨z, h1, hl, q⟩ => ⟨.str z, .int (z.length : Int), .inl h1, unP_flat rfl fun B H u Q e dd kk => ⟨z, by rw [dr_str dd], hl, kk⟩, q⟩)
theorem ev_list (h : EvS K ta δ fun s δ1 => ∃ ds, (den K δ1 s (.list ds) ∨ den K δ1 s (.tuple ds)) ∧ Φ (.ow (RL K ds)) δ1) : EvS K (tCB (fun xs H Q => ∃ p ys, xs = [.ref p] ∧ (SqL K H p ys ∨ SqT K H p ys) ∧ ∀ l, H l = none → Q (.ref l) (upd H l (.lst ys))) (tCons ta tNil)) δ Φ :=
  ev_cb1L (h.imp fun s δ1 ⟨ds, h1, q⟩ => by
    obtain ⟨x, hx, k⟩ := den2 (B := fun _ => none) (H := fun _ => none) (v := .non) h1
    refine ⟨x, ds, hx, fun B H u Q e dd kk => ?_, q⟩
    obtain ⟨p, xs, rfl, hs, ha⟩ := dr_seq e (k B H u dd)
    exact ⟨p, xs, rfl, hs, fun l hl => kk l xs hl ha⟩)
theorem ev_tuple (h : EvS K ta δ fun s δ1 => ∃ ds, (den K δ1 s (.list ds) ∨ s = .pu (.tuple ds)) ∧ ds.length ≤ 100000 ∧ Φ (.pu (.tuple ds)) δ1) : EvS K (tThen ta (kTup K)) δ Φ :=
  ev_unP (r := kTup K) (h.imp fun s δ1 ⟨ds, h1, hz, q⟩ => by
    rcases h1 with h1 | h1
    · refine ⟨.list ds, .tuple ds, h1, fun B H u Q e dd kk => ?_, q⟩
      obtain ⟨p, xs, rfl, hs, ha⟩ := dd.lst e
      refine .inl ⟨p, xs, rfl, hs, fun l hl => ?_⟩
      have g := Gr.new (o := .tup xs) e hl
      exact kk _ _ _ g (.tup (SqT.of upd_same) (dpa_mono g.b _ _ ha))
    · refine ⟨.tuple ds, .tuple ds, .inl h1, fun B H u Q e dd kk => ?_, q⟩
      have dd' := dd
      obtain ⟨p, xs, rfl, hs, ha⟩ := dd.tup e
      rcases dd' with dd' | ⟨_, _, _, _, z, _⟩
      · exact .inr ⟨p, xs, rfl, hs, kk _ B H (Gr.refl e) dd'⟩
      · cases z)
theorem lst_ints {B H : Hp} {v : V} {ns : List Int} (e : Ex B H) (h : Dr K B H v (.list (ns.map PyData.int))) : ∃ p, v = .ref p ∧ SqL K H p (ns.map V.int) := by
  obtain ⟨p, xs, rfl, hs, ha⟩ := h.lst e
  rw [dpa_ints_inv ha] at hs
  exact ⟨p, rfl, hs⟩
theorem ev_sorted (h : EvS K ta δ fun s δ1 => ∃ ns : List Int, den K δ1 s (.list (ns.map PyData.int)) ∧ ∀ ns' : List Int, ns'.Perm ns → ns'.Pairwise (· ≤ ·) → Φ (.ow (RL K (ns'.map PyData.int))) δ1) : EvS K (tCB (rSortedI K) (tCons ta tNil)) δ Φ :=
  ev_unAL (r := fun v => rSortedI K [v]) (h.imp fun s δ1 ⟨ns, h1, q⟩ => ⟨_, h1, fun zs => ∃ ns' : List Int, zs = ns'.map PyData.int ∧ ns'.Perm ns ∧ ns'.Pairwise (· ≤ ·), fun B H u Q e dd kk => by
    obtain ⟨p, rfl, hs⟩ := lst_ints e dd
    exact ⟨p, ns, rfl, hs, fun ns' l h2 h3 hl => kk _ l _ ⟨ns', rfl, h2, h3⟩ hl (dpa_ints ns')⟩, fun zs ⟨ns', e, h2, h3⟩ => by rw [e]; exact q ns' h2 h3⟩)
theorem ev_max (h : EvS K ta δ fun s δ1 => ∃ ns : List Int, den K δ1 s (.list (ns.map PyData.int)) ∧ 0 < ns.length ∧ ∀ m, m ∈ ns → (∀ y, y ∈ ns → y ≤ m) → Φ (.pu (.int m)) δ1) : EvS K (tCB (rMax K) (tCons ta tNil)) δ Φ :=
  ev_unA (r := fun v => rMax K [v]) (h.imp fun s δ1 ⟨ns, h1, h0, q⟩ => ⟨_, h1, fun z => ∃ m, z = .int m ∧ m ∈ ns ∧ ∀ y, y ∈ ns → y ≤ m, fun B H u Q e dd kk => by
    obtain ⟨p, rfl, hs⟩ := lst_ints e dd
    exact ⟨p, ns, rfl, hs, h0, fun m h2 h3 => kk (.int m) ⟨m, rfl, h2, h3⟩ rfl⟩, fun z ⟨m, e, h2, h3⟩ => by rw [e]; exact q m h2 h3⟩)
theorem ev_min (h : EvS K ta δ fun s δ1 => ∃ ns : List Int, den K δ1 s (.list (ns.map PyData.int)) ∧ 0 < ns.length ∧ ∀ m, m ∈ ns → (∀ y, y ∈ ns → m ≤ y) → Φ (.pu (.int m)) δ1) : EvS K (tCB (rMin K) (tCons ta tNil)) δ Φ :=
  ev_unA (r := fun v => rMin K [v]) (h.imp fun s δ1 ⟨ns, h1, h0, q⟩ => ⟨_, h1, fun z => ∃ m, z = .int m ∧ m ∈ ns ∧ ∀ y, y ∈ ns → m ≤ y, fun B H u Q e dd kk => by
    obtain ⟨p, rfl, hs⟩ := lst_ints e dd
    exact ⟨p, ns, rfl, hs, h0, fun m h2 h3 => kk (.int m) ⟨m, rfl, h2, h3⟩ rfl⟩, fun z ⟨m, e, h2, h3⟩ => by rw [e]; exact q m h2 h3⟩)
theorem ev_sum (h : EvS K ta δ fun s δ1 => ∃ ns : List Int, den K δ1 s (.list (ns.map PyData.int)) ∧ Φ (.pu (.int ns.sum)) δ1) : EvS K (tCB (rSum K) (tCons ta tNil)) δ Φ :=
  ev_cb1P (h.imp fun s δ1 ⟨ns, h1, q⟩ => ⟨_, .int ns.sum, h1, unP_flat rfl fun B H u Q e dd kk => by
    obtain ⟨p, rfl, hs⟩ := lst_ints e dd
    exact ⟨p, ns, rfl, hs, kk⟩, q⟩)
theorem dpa_bl_inv {H : Hp} : ∀ {ns : List Bool} {vs : List V}, DpAll K H vs (ns.map PyData.bool) → vs = ns.map V.bl
  | [], _, h => by cases h; rfl
  | n :: r, _, h => by
    cases h with
    | cons h1 h2 =>
      cases h1
      rw [dpa_bl_inv h2]
      rfl
theorem ev_all (h : EvS K ta δ fun s δ1 => ∃ bs : List Bool, den K δ1 s (.list (bs.map PyData.bool)) ∧ Φ (.pu (.bool (bs.all id))) δ1) : EvS K (tCB (rAll K) (tCons ta tNil)) δ Φ :=
  ev_cb1P (h.imp fun s δ1 ⟨ns, h1, q⟩ => ⟨_, .bool (ns.all id), h1, unP_flat rfl fun B H u Q e dd kk => by
    obtain ⟨p, xs, rfl, hs, ha⟩ := dd.lst e
    rw [dpa_bl_inv ha] at hs
    exact ⟨p, ns, rfl, hs, kk⟩, q⟩)
theorem ev_abs (h : EvS K ta δ fun s δ1 => ∃ i : Int, s = .pu (.int i) ∧ Φ (.pu (.int (if i < 0 then -i else i))) δ1) : EvS K (tCB (fun xs H Q => ∃ i, xs = [.int i] ∧ Q (.int (if i < 0 then -i else i)) H) (tCons ta tNil)) δ Φ :=
  ev_cb1P (h.imp fun s δ1 ⟨i, h1, q⟩ => ⟨_, .int (if i < 0 then -i else i), .inl h1, unP_flat rfl fun B H u Q e dd kk => ⟨i, by rw [dr_int dd], kk⟩, q⟩)
theorem ev_strI (h : EvS K ta δ fun s δ1 => ∃ i : Int, s = .pu (.int i) ∧ i.natAbs.log2 < 1920 ∧ Φ (.pu (.str (Str.ofString (toString i)))) δ1) : EvS K (tCB (fun xs H Q => ∃ i, xs = [.int i] ∧ i.natAbs.log2 < 1920 ∧ Q (.str (Str.ofString (toString i))) H) (tCons ta tNil)) δ Φ :=
  ev_cb1P (h.imp fun s δ1 ⟨i, h1, hl, q⟩ => ⟨_, .str (Str.ofString (toString i)), .inl h1, unP_flat rfl fun B H u Q e dd kk => ⟨i, by rw [dr_int dd], hl, kk⟩, q⟩)
theorem ev_intB (h : EvS K ta δ fun s δ1 => ∃ b : Bool, s = .pu (.bool b) ∧ Φ (.pu (.int (if b then 1 else 0))) δ1) : EvS K (tCB (fun xs H Q => (∃ i, xs = [.int i] ∧ Q (.int i) H) ∨ ∃ k, xs = [.bl k] ∧ Q (.int (b2i k)) H) (tCons ta tNil)) δ Φ :=
  ev_cb1P (h.imp fun s δ1 ⟨b, h1, q⟩ => ⟨_, .int (if b then 1 else 0), .inl h1, unP_flat rfl fun B H u Q e dd kk => .inr ⟨b, by rw [dr_bl dd], by cases b <;> exact kk⟩, q⟩)
/-- two ints -/
theorem ev_cb2I {g : Int → Int → Int} (h : EvS K ta δ fun s1 δ1 => EvS K tb δ1 fun s2 δ2 => ∃ i j, s1 = .pu (.int i) ∧ s2 = .pu (.int j) ∧ Φ (.pu (.int (g i j))) δ2) : EvS K (tCB (fun xs H Q => ∃ i j, xs = [.int i, .int j] ∧ Q (.int (g i j)) H) (tCons ta (tCons tb tNil))) δ Φ :=
  ev_opP (r := fun u v H Q => ∃ i j, [u, v] = [V.int i, V.int j] ∧ Q (.int (g i j)) H) (h.imp fun s1 δ1 h1 => h1.imp fun s2 δ2 ⟨i, j, e1, e2, q⟩ => ⟨.int i, .int j, .int (g i j), .inl e1, .inl e2, opP_flat rfl fun B H u v Q e d1 d2 k => ⟨i, j, by rw [dr_int d1, dr_int d2], k⟩, q⟩)
/-! ### isinstance -/
def tyN : PyData → String
  | .none => "NoneType" | .bool _ => "bool" | .int _ => "int" | .str _ => "str" | .list _ => "list" | .tuple _ => "tuple" | .dict _ => "dict"
theorem ty_of {H : Hp} {v : V} {x : PyData} (h : Dp K H v x) : TyX K H v (.type (tyN x)) := by
  cases h with
  | non => exact .base .non
  | bl b => exact .base (.bl b)
  | int i => exact .base (.int i)
  | str s => exact .base (.str s)
  | lst hs _ =>
    rcases hs with (h | ⟨o, h⟩) | ⟨o, its, n, hk, hc, _⟩
    · exact .base (.lst h)
    · exact .base (.frz h)
    · exact .kList hk hc
  | tup hs _ =>
    rcases hs with (h | ⟨o, h⟩) | ⟨o, its, n, hk, hc, _⟩
    · exact .base (.tup h)
    · exact .fTuple h
    · exact .kTuple hk hc
def isiD (x : PyData) (n : String) : Bool := (kitB (tyN x) n).getD false
def TyGood (n : String) : Prop := ∀ x : PyData, (∀ kv, x ≠ .dict kv) → kitB (tyN x) n = some (isiD x n)
theorem good_ty {n : String} (h : (kitB "NoneType" n).isSome = true ∧ (kitB "bool" n).isSome = true ∧ (kitB "int" n).isSome = true ∧ (kitB "str" n).isSome = true ∧ (kitB "list" n).isSome = true ∧ (kitB "tuple" n).isSome = true) : TyGood n := by
  have k : ∀ m, (kitB m n).isSome = true → kitB m n = some ((kitB m n).getD false) := fun m hm => by
    obtain ⟨b, hb⟩ := Option.isSome_iff_exists.mp hm
    rw [hb]
    rfl
  obtain ⟨h1, h2, h3, h4, h5, h6⟩ := h
  intro x hx
  cases x with
  | none => exact k _ h1
  | bool _ => exact k _ h2
  | int _ => exact k _ h3
  | str _ => exact k _ h4
  | list _ => exact k _ h5
  | tuple _ => exact k _ h6
  | dict kv => exact absurd rfl (hx kv)
theorem good_int : TyGood "int" := good_ty (by decide +kernel)
theorem good_bool : TyGood "bool" := good_ty (by decide +kernel)
theorem good_str : TyGood "str" := good_ty (by decide +kernel)
theorem good_list : TyGood "list" := good_ty (by decide +kernel)
theorem good_tuple : TyGood "tuple" := good_ty (by decide +kernel)
def isInt : PyData → Bool | .int _ => true | .bool _ => true | _ => false
def isBool : PyData → Bool | .bool _ => true | _ => false
def isStr : PyData → Bool | .str _ => true | _ => false
def isList : PyData → Bool | .list _ => true | _ => false
def isTup : PyData → Bool | .tuple _ => true | _ => false
theorem isi_int {x : PyData} (hx : ∀ kv, x ≠ .dict kv) : isiD x "int" = isInt x := by
  cases x with
  | none => show (kitB "NoneType" "int").getD false = false; decide +kernel
  | bool _ => show (kitB "bool" "int").getD false = true; decide +kernel
  | int _ => show (kitB "int" "int").getD false = true; decide +kernel
  | str _ => show (kitB "str" "int").getD false = false; decide +kernel
  | list _ => show (kitB "list" "int").getD false = false; decide +kernel
  | tuple _ => show (kitB "tuple" "int").getD false = false; decide +kernel
  | dict kv => exact absurd rfl (hx kv)
theorem isi_bool {x : PyData} (hx : ∀ kv, x ≠ .dict kv) : isiD x "bool" = isBool x := by
  cases x with
  | none => show (kitB "NoneType" "bool").getD false = false; decide +kernel
  | bool _ => show (kitB "bool" "bool").getD false = true; decide +kernel
  | int _ => show (kitB "int" "bool").getD false = false; decide +kernel
  | str _ => show (kitB "str" "bool").getD false = false; decide +kernel
  | list _ => show (kitB "list" "bool").getD false = false; decide +kernel
  | tuple _ => show (kitB "tuple" "bool").getD false = false; decide +kernel
  | dict kv => exact absurd rfl (hx kv)
theorem isi_str {x : PyData} (hx : ∀ kv, x ≠ .dict kv) : isiD x "str" = isStr x := by
  cases x with
  | none => show (kitB "NoneType" "str").getD false = false; decide +kernel
  | bool _ => show (kitB "bool" "str").getD false = false; decide +kernel
  | int _ => show (kitB "int" "str").getD false = false; decide +kernel
  | str _ => show (kitB "str" "str").getD false = true; decide +kernel
  | list _ => show (kitB "list" "str").getD false = false; decide +kernel
  | tuple _ => show (kitB "tuple" "str").getD false = false; decide +kernel
  | dict kv => exact absurd rfl (hx kv)
theorem isi_list {x : PyData} (hx : ∀ kv, x ≠ .dict kv) : isiD x "list" = isList x := by
  cases x with
  | none => show (kitB "NoneType" "list").getD false = false; decide +kernel
  | bool _ => show (kitB "bool" "list").getD false = false; decide +kernel
  | int _ => show (kitB "int" "list").getD false = false; decide +kernel
  | str _ => show (kitB "str" "list").getD false = false; decide +kernel
  | list _ => show (kitB "list" "list").getD false = true; decide +kernel
  | tuple _ => show (kitB "tuple" "list").getD false = false; decide +kernel
  | dict kv => exact absurd rfl (hx kv)
theorem isi_tup {x : PyData} (hx : ∀ kv, x ≠ .dict kv) : isiD x "tuple" = isTup x := by
  cases x with
  | none => show (kitB "NoneType" "tuple").getD false = false; decide +kernel
  | bool _ => show (kitB "bool" "tuple").getD false = false; decide +kernel
  | int _ => show (kitB "int" "tuple").getD false = false; decide +kernel
  | str _ => show (kitB "str" "tuple").getD false = false; decide +kernel
  | list _ => show (kitB "list" "tuple").getD false = false; decide +kernel
  | tuple _ => show (kitB "tuple" "tuple").getD false = true; decide +kernel
  | dict kv => exact absurd rfl (hx kv)
theorem dp_nodict {H : Hp} {v : V} {x : PyData} (h : Dp K H v x) : ∀ kv, x ≠ .dict kv := by
  intro kv e
  subst e
  cases h
theorem ev_isi {n : String} {f : PyData → Bool} (g : TyGood n) (gf : ∀ x, (∀ kv, x ≠ .dict kv) → isiD x n = f x) (h : EvS K ta δ fun s δ1 => ∃ x, den K δ1 s x ∧ Φ (.pu (.bool (f x))) δ1) : EvS K (tCB (rIsi K) (tCons ta (tCons (tC (.ty n)) tNil))) δ Φ :=
  ev_unP (r := fun v => rIsi K [v, .ty n]) (h.imp fun s δ1 ⟨x, h1, q⟩ => ⟨x, .bool (f x), h1, unP_flat rfl fun B H u Q e dd kk => by
    have hd := dd.dp e
    have nd := dp_nodict hd
    exact ⟨u, .ty n, .type (tyN x), .type n, isiD x n, rfl, .ty n, ty_of hd, kit_ty (g x nd), by rw [gf x nd]; exact kk⟩, q⟩)
/-! ### list(range(..)), [x] * n, slices -/
theorem rgV_ints (a b : Int) : rgV a b = ((List.range (b - a).toNat).map fun i => a + ((i : Nat) : Int)).map V.int := by
  unfold rgV
  rw [List.map_map]
  rfl
def rgI (a b : Int) : List Int := (List.range (b - a).toNat).map fun i => a + ((i : Nat) : Int)
theorem ev_listRg1 (h : EvS K ta δ fun s δ1 => ∃ k : Int, s = .pu (.int k) ∧ 0 ≤ k ∧ k ≤ 16777216 ∧ Φ (.ow (RL K ((rgI 0 k).map PyData.int))) δ1) : EvS K (tLstRg (tRg1 ta)) δ Φ :=
  ev_unL (r := fun x H1 Q => ∃ n, x = .int n ∧ (RgOk 0 n ∧ ∀ q, H1 q = none → Q (.ref q) (upd H1 q (.lst (rgV 0 n))))) (h.imp fun s δ1 ⟨k, h1, k0, k1, q⟩ => ⟨_, _, .inl h1, fun B H u Q e dd kk => by
    refine ⟨k, dr_int dd, RgOk.of_le (Int.le_refl 0) k1 (by omega) k0, fun q hq => ?_⟩
    rw [rgV_ints]
    exact kk q _ hq (dpa_ints _), q⟩)
theorem den_list_own {s : Slot} {ds : List PyData} (h : den K δ s (.list ds)) (hs : ∀ x, s ≠ .pu x) : s = .ow (RL K ds) ∨ ∃ i, s = .al i ∧ δ[i]? = some (.ow (RL K ds)) := by
  rcases h with h | ⟨es, e, h⟩
  · exact absurd h (hs _)
  · cases e
    exact h
/-- contents read at once: an owned list -/
theorem vok_own {B H : Hp} {σ : L2.St} {F' M : Addr → Prop} {v : V} {s : Slot} {ds : List PyData} (S : Sd K B H σ δ F') (w : VOk K σ δ B H v M s) (h : s = .ow (RL K ds) ∨ ∃ i, s = .al i ∧ δ[i]? = some (.ow (RL K ds))) : ∃ p xs, v = .ref p ∧ H p = some (.lst xs) ∧ DpAll K B xs ds := by
  rcases h with rfl | ⟨i, rfl, hi⟩
  · obtain ⟨p, xs, rfl, hp, ha, _⟩ := w
    exact ⟨p, xs, rfl, hp, ha⟩
  · obtain ⟨v', M', ev, ⟨p, xs, rfl, hp, ha, _⟩, _⟩ := S.opn hi
    rw [w.1] at ev
    cases ev
    exact ⟨p, xs, rfl, hp, ha⟩
theorem dpa_rep {B : Hp} {xs : List V} {ds : List PyData} (h : DpAll K B xs ds) : ∀ n : Nat, DpAll K B (List.replicate n xs).flatten (List.replicate n ds).flatten
  | 0 => .nil
  | n + 1 => by
    rw [List.replicate_succ, List.replicate_succ, List.flatten_cons, List.flatten_cons]
    exact dpa_append h (dpa_rep h n)
theorem ev_rep (h : EvS K ta δ fun s1 δ1 => EvS K tb δ1 fun s2 δ2 => ∃ ds, ∃ k : Int, s1 = .ow (RL K ds) ∧ s2 = .pu (.int k) ∧ -(2 ^ 63) ≤ k ∧ k < 2 ^ 63 ∧ ds.length * k.toNat ≤ 100000 ∧ Φ (.ow (RL K (List.replicate k.toNat ds).flatten)) δ2) : EvS K (tOp rRep ta tb) δ Φ := fun B H σ F Q S kk =>
  h B H σ F _ S fun v1 M1 s1 B1 H1 δ1 e1 f1 S1 w1 n1 p1 => p1 B1 H1 σ _ _ S1 fun v2 M2 s2 B2 H2 δ2 e2 f2 S2 w2 n2 ⟨ds, k, es1, es2, k1, k2, hl, q⟩ => by
    subst es1 es2
    have w1' : (RL K ds).P v1 B2 H2 M1 := (RL K ds).loc w1 e2 fun a ha => f2 a (.inr ha)
    obtain ⟨p, xs, rfl, hp, ha, hM⟩ := w1'
    have SF : Sd K B2 H2 σ δ2 F := S2.less fun a ha => .inl (.inl ha)
    refine ⟨p, k, xs, rfl, dp_int_inv w2.1, hp, k1, k2, Evl.sz_of (by rw [dpa_len ha]; exact hl), fun r hr => ?_⟩
    refine kk (.ref r) (fun a => a = r) (.ow (RL K _)) B2 _ δ2 (e1.trans e2) (fun a ha => ?_) (sd_own SF hr) (rl_new (dpa_rep ha k.toNat)) (fun a ha f => ?_) q
    · rw [upd_ne (fun z => SF.fl a ha (by rw [z]; exact hr)), f2 a (.inl ha), f1 a ha]
    · rw [ha] at f; exact SF.fl r f hr
theorem ev_cat (h : EvS K ta δ fun s1 δ1 => EvS K tb δ1 fun s2 δ2 => ∃ ds es, (s1 = .ow (RL K ds) ∨ ∃ i, s1 = .al i ∧ δ2[i]? = some (.ow (RL K ds))) ∧ (s2 = .ow (RL K es) ∨ ∃ i, s2 = .al i ∧ δ2[i]? = some (.ow (RL K es))) ∧ ds.length + es.length ≤ 100000 ∧ Φ (.ow (RL K (ds ++ es))) δ2) : EvS K (tOp rCat ta tb) δ Φ := fun B H σ F Q S kk =>
  h B H σ F _ S fun v1 M1 s1 B1 H1 δ1 e1 f1 S1 w1 n1 p1 => p1 B1 H1 σ _ _ S1 fun v2 M2 s2 B2 H2 δ2 e2 f2 S2 w2 n2 ⟨ds, es, h1, h2, hl, q⟩ => by
    have w1' : VOk K σ δ2 B2 H2 v1 M1 s1 := w1.step e2 fun a ha => f2 a (.inr ha)
    obtain ⟨p, xs, rfl, hp, ha⟩ := vok_own S2 w1' h1
    obtain ⟨p2, ys, rfl, hp2, ha2⟩ := vok_own S2 w2 h2
    have SF : Sd K B2 H2 σ δ2 F := S2.less fun a ha => .inl (.inl ha)
    refine ⟨p, p2, xs, ys, rfl, rfl, hp, hp2, Evl.sz_of (by rw [dpa_len ha, dpa_len ha2]; exact hl), fun r hr => ?_⟩
    refine kk (.ref r) (fun a => a = r) (.ow (RL K _)) B2 _ δ2 (e1.trans e2) (fun a ha => ?_) (sd_own SF hr) (rl_new (dpa_append ha ha2)) (fun a ha f => ?_) q
    · rw [upd_ne (fun z => SF.fl a ha (by rw [z]; exact hr)), f2 a (.inl ha), f1 a ha]
    · rw [ha] at f; exact SF.fl r f hr
/-- parts of a slice -/
def EvO (K : PySem.W.Frag) (to : TO) (δ : List Slot) (Φ : Option Int → List Slot → Prop) : Prop :=
  ∀ (B H : Hp) (σ : L2.St) (F : Addr → Prop) (Q : Option Int → Hp → Prop), Sd K B H σ δ F →
    (∀ b B2 H2 δ2, Ex B B2 → (∀ a, F a → H2 a = H a) → Sd K B2 H2 σ δ2 F → Φ b δ2 → Q b H2) → to σ H Q
theorem eo_none {Φ : Option Int → List Slot → Prop} (h : Φ none δ) : EvO K tNoPart δ Φ := fun B H σ F Q S k => k none B H δ (Ex.refl _) (fun _ _ => rfl) S h
theorem eo_some {Φ : Option Int → List Slot → Prop} (h : EvS K ta δ fun s δ1 => ∃ i : Int, s = .pu (.int i) ∧ Φ (some i) δ1) : EvO K (tPart ta) δ Φ := fun B H σ F Q S k =>
  h B H σ F _ S fun v M s B2 H2 δ2 e f S2 w n ⟨i, es, q⟩ => by
    subst es
    exact ⟨i, dp_int_inv w.1, k (some i) B2 H2 δ2 e f (S2.less fun a z => .inl z) q⟩
def cutD (ds : List PyData) (lo hi : Option Int) : List PyData := (ds.drop (HT.sIx ds.length 0 lo)).take (HT.sIx ds.length ds.length hi - HT.sIx ds.length 0 lo)
theorem dpa_cut {B : Hp} {xs : List V} {ds : List PyData} {lo hi : Option Int} (h : DpAll K B xs ds) : DpAll K B (cutV xs lo hi) (cutD ds lo hi) := by
  unfold cutV cutD
  rw [dpa_len h]
  exact dpa_take _ (dpa_drop _ h)
theorem ev_slL {tl th : TO} (h : EvS K ta δ fun s δ1 => EvO K tl δ1 fun lo δ2 => EvO K th δ2 fun hi δ3 => ∃ ds, den K δ3 s (.list ds) ∧ Φ (.ow (RL K (cutD ds lo hi))) δ3) : EvS K (tSl (rSlL K) ta tl th) δ Φ := fun B H σ F Q S kk =>
  h B H σ F _ S fun v1 M1 s1 B1 H1 δ1 e1 f1 S1 w1 n1 p1 => p1 B1 H1 σ _ _ S1 fun lo B2 H2 δ2 e2 f2 S2 p2 => p2 B2 H2 σ _ _ S2 fun hi B3 H3 δ3 e3 f3 S3 ⟨ds, hd, q⟩ => by
    have w1' : VOk K σ δ3 B3 H3 v1 M1 s1 := w1.step (e2.trans e3) fun a ha => (f3 a (.inr ha)).trans (f2 a (.inr ha))
    obtain ⟨p, xs, rfl, hs, ha⟩ := (den_dr S3 w1' hd).lst S3.bh
    have SF : Sd K B3 H3 σ δ3 F := S3.less fun a ha => .inl ha
    refine ⟨p, xs, rfl, hs, fun r hr => ?_⟩
    refine kk (.ref r) (fun a => a = r) (.ow (RL K _)) B3 _ δ3 ((e1.trans e2).trans e3) (fun a ha => ?_) (sd_own SF hr) (rl_new (dpa_cut ha)) (fun a ha f => ?_) q
    · rw [upd_ne (fun z => SF.fl a ha (by rw [z]; exact hr)), f3 a (.inl ha), f2 a (.inl ha), f1 a ha]
    · rw [ha] at f; exact SF.fl r f hr
theorem ev_slT {tl th : TO} (h : EvS K ta δ fun s δ1 => EvO K tl δ1 fun lo δ2 => EvO K th δ2 fun hi δ3 => ∃ ds, s = .pu (.tuple ds) ∧ Φ (.pu (.tuple (cutD ds lo hi))) δ3) : EvS K (tSl (rSlA K) ta tl th) δ Φ := fun B H σ F Q S kk =>
  h B H σ F _ S fun v1 M1 s1 B1 H1 δ1 e1 f1 S1 w1 n1 p1 => p1 B1 H1 σ _ _ S1 fun lo B2 H2 δ2 e2 f2 S2 p2 => p2 B2 H2 σ _ _ S2 fun hi B3 H3 δ3 e3 f3 S3 ⟨ds, es, q⟩ => by
    subst es
    have w1' := dp_mono (e2.trans e3) _ _ w1.1
    have SF : Sd K B3 H3 σ δ3 F := S3.less fun a ha => .inl ha
    have w2 := w1'
    cases w1' with
    | @tup p xs _ hs ha =>
      refine ⟨p, xs, rfl, Evl.ex_t S3.bh hs, fun ⟨c1, c2⟩ => ?_, fun c r hr => ?_⟩
      · have hc : cutD ds lo hi = ds := by
          unfold cutD
          rw [← dpa_len ha, c1, c2, List.drop_zero, Nat.sub_zero, dpa_len ha, List.take_length]
        rw [hc] at q
        exact kk _ (fun _ => False) (.pu (.tuple ds)) B3 H3 δ3 ((e1.trans e2).trans e3) (fun a z => by rw [f3 a (.inl z), f2 a (.inl z), f1 a z]) (SF.less fun a z => z.elim id False.elim) ⟨w2, fun _ z => z⟩ (fun _ z => z.elim) q
      · have g := Gr.new (o := .tup (cutV xs lo hi)) S3.bh hr
        exact kk _ (fun _ => False) (.pu (.tuple (cutD ds lo hi))) _ _ δ3 (((e1.trans e2).trans e3).trans g.b) (fun a z => by rw [ex_eq g.h (SF.fl a z), f3 a (.inl z), f2 a (.inl z), f1 a z]) ((SF.grow g).less fun a z => z.elim id False.elim) ⟨.tup (SqT.of upd_same) (dpa_mono g.b _ _ (dpa_cut ha)), fun _ z => z⟩ (fun _ z => z.elim) q
end
end Dl

namespace Dl
open PySem PySem.Spec PyProof.Rows L2
open Evl (Ex)
section
variable {K : PySem.W.Frag} {w : World} {δ : List Slot} {te ta tb tc : TE} {tr : TA} {tt : TT} {t u : TS} {d : Dn} {Φ : Slot → List Slot → Prop}
theorem seq_ints {B H : Hp} {v : V} {ns : List Int} (e : Ex B H) (h : Dr K B H v (.list (ns.map PyData.int)) ∨ Dr K B H v (.tuple (ns.map PyData.int))) : ∃ p, v = .ref p ∧ (SqL K H p (ns.map V.int) ∨ SqT K H p (ns.map V.int)) := by
  obtain ⟨p, xs, rfl, hs, ha⟩ := dr_seq e h
  rw [dpa_ints_inv ha] at hs
  exact ⟨p, rfl, hs⟩
/-- sorted(set(xs)) of ints -/
theorem ev_sortedSet (h : EvS K te δ fun s δ1 => ∃ ns : List Int, (den K δ1 s (.list (ns.map PyData.int)) ∨ den K δ1 s (.tuple (ns.map PyData.int))) ∧ ns.length < 64 ∧ ∀ ns' : List Int, ns'.Pairwise (· < ·) → (∀ k, k ∈ ns' ↔ k ∈ ns) → Φ (.ow (RL K (ns'.map PyData.int))) δ1) : EvS K (tCB (rSortedSet w) (tCons (tCB (Rk.rSetI K w) (tCons te tNil)) tNil)) δ Φ := fun B H σ F Q S kk =>
  h B H σ F _ S fun v M s B1 H1 δ1 e1 f1 S1 w1 n1 ⟨ns, hd, hl, q⟩ => by
    have hdr : Dr K B1 H1 v (.list (ns.map PyData.int)) ∨ Dr K B1 H1 v (.tuple (ns.map PyData.int)) := hd.imp (den_dr S1 w1) (den_dr S1 w1)
    obtain ⟨p, rfl, hs⟩ := seq_ints S1.bh hdr
    have SF : Sd K B1 H1 σ δ1 F := S1.less fun a ha => .inl ha
    refine ⟨p, ns, rfl, hs, by omega, fun r n hr hn => ?_⟩
    refine ⟨r, _, n, rfl, upd_same, by omega, fun ns' r2 h1 h2 _ hr2 => ?_⟩
    have gr : Gr B1 H1 B1 (upd H1 r (SetO w r (fun j => decide (j ∈ ns)) n)) := Gr.own S1.bh hr
    have S2 := SF.grow gr
    refine kk (.ref r2) (fun a => a = r2) (.ow (RL K _)) B1 _ δ1 e1 (fun a ha => ?_) (sd_own S2 hr2) (rl_new (dpa_ints ns')) (fun a ha f => ?_) (q ns' h1 fun k => ?_)
    · rw [upd_ne (fun z => S2.fl a ha (by rw [z]; exact hr2)), ex_eq gr.h (SF.fl a ha), f1 a ha]
    · rw [ha] at f; exact S2.fl r2 f hr2
    · rw [h2 k, decide_eq_true_eq]
/-- for i, x in enumerate(a tuple) -/
theorem xs_forET {g : TG} (h : EvD K te δ fun x δ1 => ∃ ds, x = .tuple ds ∧ ∃ Pv : Nat → List Slot → Prop, Pv 0 δ1 ∧ (∀ (i : Nat) y δ', ds[i]? = some y → Pv i δ' → Turn1 K g t d (.tuple [.int (i : Int), y]) (Pv (i + 1)) δ') ∧ ∀ δ', Pv ds.length δ' → d.nx δ') : ExS K (tFor (Rk.iEnumT K (tCons te tNil)) g t) d δ := fun B H σ F D S L =>
  h B H σ F _ S fun v x B2 H2 δ1 e f S2 hd ⟨ds, ex, Pv, h0, hs, hn⟩ => by
    subst ex
    cases hd with
    | @tup p xs _ hq ha =>
      have len := dpa_len ha
      refine ⟨p, xs, rfl, Evl.ex_t S2.bh hq, ?_⟩
      refine for_core (n := ds.length) (item := fun i => .tuple [.int (i : Int), ds.getD i .none]) Pv S2 F (fun a z => z) (L.step e f) h0 (fun i hi B' H' σ' δ' e' f' S' p' => ?_) (fun B' H' σ' δ' e' f' S' p' => ?_) (fun i δ' hi q => hs i _ δ' (by rw [List.getD_eq_getElem?_getD, List.getElem?_eq_getElem hi]; rfl) q) hn
      · have hq' : SqT K H' p xs := Evl.ex_t (e'.trans S'.bh) hq
        obtain ⟨w, hw, hdw⟩ := dpa_get ha (List.getElem?_eq_getElem hi)
        refine ⟨⟨xs, w, hq', hw⟩, fun y H3 hy => ?_⟩
        obtain ⟨T, x', e1, hT, e2, e3⟩ := hy
        subst e1 e2
        have e4 := (e3 xs hq').symm.trans hw
        cases e4
        have gr := Gr.new (o := .tup [.int (i : Nat), w]) S'.bh hT
        refine ⟨_, gr, .tup (SqT.of upd_same) (.cons (.int _) (.cons ?_ .nil))⟩
        rw [List.getD_eq_getElem?_getD, List.getElem?_eq_getElem hi]
        exact dp_mono (e'.trans gr.b) _ _ hdw
      · exact ⟨xs, Evl.ex_t (e'.trans S'.bh) hq, Nat.le_of_eq len⟩
/-- xs.extend(ys), xs at the name j -/
theorem ev_extend {j : Nat} {ds0 : List PyData} (h0 : δ[j]? = some (.ow (RL K ds0))) (h : EvS K te δ fun s δ1 => ∃ ds es, δ1[j]? = some (.ow (RL K ds)) ∧ (den K δ1 s (.list es) ∨ den K δ1 s (.tuple es)) ∧ ds.length + es.length ≤ 100000 ∧ Φ (.pu .none) (δ1.set j (.ow (RL K (ds ++ es))))) : EvS K (tBM K "list" (Rk.rExtendA K) (tVar j) (tCons te tNil)) δ Φ := fun B H σ F Q S k => by
  obtain ⟨v, M, ev, ⟨p, xs0, rfl, hp0, _⟩, _⟩ := S.opn h0
  refine ⟨_, ev, .inl ⟨rfl, xs0, SqL.of hp0⟩, h B H σ F _ S fun u M2 s B2 H2 δ1 e f S2 wk n ⟨ds, es, hj, hd, hl, q⟩ => ?_⟩
  have S2' : Sd K B2 H2 σ δ1 F := S2.less fun a z => .inl z
  have hdr : Dr K B2 H2 u (.list es) ∨ Dr K B2 H2 u (.tuple es) := hd.imp (den_dr S2 wk) (den_dr S2 wk)
  obtain ⟨b, zs, rfl, hs, hz⟩ := dr_seq S2.bh hdr
  obtain ⟨_, _, xs, hp, ha⟩ := S2'.setL (B2 := B2) (xs := []) (ys := []) (ds' := []) hj ev .nil
  obtain ⟨S3, f3, _⟩ := S2'.setL (B2 := B2) (xs := []) hj ev (dpa_append ha hz)
  refine ⟨p, b, xs, zs, rfl, rfl, hp, hs, Evl.sz_of (by rw [dpa_len ha, dpa_len hz]; exact hl), ?_⟩
  exact k .non (fun _ => False) (.pu .none) B2 _ _ e (fun a z => (f3 a z).trans (f a z)) (S3.less fun a z => z.elim id False.elim) ⟨.non, fun _ z => z⟩ (fun _ z => z.elim) q
/-- xs.remove(k), ints, xs at the name j -/
theorem ev_remove {j : Nat} {ns0 : List Int} (h0 : δ[j]? = some (.ow (RL K (ns0.map PyData.int)))) (h : EvS K te δ fun s δ1 => ∃ (ns : List Int) (k : Int) (i : Nat), δ1[j]? = some (.ow (RL K (ns.map PyData.int))) ∧ s = .pu (.int k) ∧ ns[i]? = some k ∧ (∀ m : Nat, m < i → ns[m]? ≠ some k) ∧ Φ (.pu .none) (δ1.set j (.ow (RL K ((ns.eraseIdx i).map PyData.int))))) : EvS K (tBM K "list" rRemI (tVar j) (tCons te tNil)) δ Φ := fun B H σ F Q S kk => by
  obtain ⟨v, M, ev, ⟨p, xs0, rfl, hp0, _⟩, _⟩ := S.opn h0
  refine ⟨_, ev, .inl ⟨rfl, xs0, SqL.of hp0⟩, h B H σ F _ S fun u M2 s B2 H2 δ1 e f S2 wk n ⟨ns, k, i, hj, es, hi, hno, q⟩ => ?_⟩
  subst es
  have S2' : Sd K B2 H2 σ δ1 F := S2.less fun a z => .inl z
  obtain ⟨_, _, xs, hp, ha⟩ := S2'.setL (B2 := B2) (xs := []) (ys := []) (ds' := []) hj ev .nil
  have ex := dpa_ints_inv ha
  subst ex
  obtain ⟨S3, f3, _⟩ := S2'.setL (B2 := B2) (xs := []) (ys := (ns.eraseIdx i).map V.int) hj ev (dpa_ints _)
  exact ⟨p, ns, k, i, rfl, by rw [dp_int_inv wk.1], hp, hi, hno, kk .non (fun _ => False) (.pu .none) B2 _ _ e (fun a z => (f3 a z).trans (f a z)) (S3.less fun a z => z.elim id False.elim) ⟨.non, fun _ z => z⟩ (fun _ z => z.elim) q⟩
end
/-! ### dice -/
def DiceOk (xs : List Int) : Prop := 2 ≤ xs.length ∧ xs.length ≤ 1000 ∧ ∀ x ∈ xs, 0 ≤ x
/-- the list of draws at d -/
def RDi (d : Addr) : Res where
  P v B H M := v = .ref d ∧ (∃ xs, DiceOk xs ∧ H d = some (.lst (xs.map V.int))) ∧ ∀ a, M a ↔ a = d
  loc := by
    rintro v B H B' H' M ⟨rfl, ⟨xs, ok, hd⟩, hM⟩ e k
    exact ⟨rfl, ⟨xs, ok, by rw [k d ((hM d).mpr rfl)]; exact hd⟩, hM⟩
  live := by
    rintro v B H M ⟨rfl, ⟨xs, ok, hd⟩, hM⟩ a ha
    rw [(hM a).mp ha, hd]
    exact fun z => nomatch z
/-- a def whose first argument is the list of draws -/
def spDi (K : PySem.W.Frag) (n : Nat) (pre : List PyData → Prop) (T : List PyData → Rt → Prop) : Sp := fun vs H Q _ =>
  ∃ B d rest ds xs, vs = .ref d :: rest ∧ Ex B H ∧ B d = none ∧ H d = some (.lst (xs.map V.int)) ∧ DiceOk xs ∧ DpAll K B rest ds ∧ ds.length = n ∧ pre ds ∧
    ∀ v B2 H2 r xs', Ex B B2 → Ex B2 H2 → (∀ a o, a ≠ d → H a = some o → H2 a = some o) → (∀ a o, B2 a = some o → B a = some o ∨ H a = none) → H2 d = some (.lst (xs'.map V.int)) → DiceOk xs' → RtOk K H B2 H2 v r → T ds r → Q v H2
theorem spDi_len {K : PySem.W.Frag} {n : Nat} {pre : List PyData → Prop} {T : List PyData → Rt → Prop} {vs : List V} {H : Hp} {Q : VK} {E : XK} (h : spDi K n pre T vs H Q E) : vs.length = n + 1 := by
  obtain ⟨B, d, rest, ds, xs, rfl, _, _, _, _, ha, hn, _⟩ := h
  rw [List.length_cons, dpa_len ha, hn]
section
variable {K : PySem.W.Frag} {w : World} {δ : List Slot} {te ta tb tc : TE} {tr : TA} {tt : TT} {t u : TS} {Φ : Slot → List Slot → Prop}
theorem set_selfD {i : Nat} {x : Slot} (h : δ[i]? = some x) : δ.set i x = δ := by
  apply List.ext_getElem?
  intro j
  by_cases e : j = i
  · subst e
    rw [h, List.getElem?_set_self (List.getElem?_eq_some_iff.mp h).1]
  · rw [List.getElem?_set_ne (Ne.symm e)]
theorem ev_callD {i n : Nat} {d : Addr} {pre : List PyData → Prop} {T : List PyData → Rt → Prop} {E : XK} (h0 : δ[i]? = some (.ow (RDi d))) (h : EvDs K tr δ fun ds δ1 => δ1[i]? = some (.ow (RDi d)) ∧ ds.length = n ∧ pre ds ∧ ∀ r, T ds r → Φ (r.slot K) δ1) : EvS K (tCall (spDi K n pre T) [] E (tCons (tVar i) tr)) δ Φ := fun B H σ F Q S k => by
  obtain ⟨v, M, ev, ⟨rfl, _, _⟩, _⟩ := S.opn h0
  refine ⟨_, ev, h B H σ F _ S fun vs ds B2 H2 δ1 e f S2 ha ⟨hi, hn, hp, q⟩ => ?_⟩
  show spDi K n pre T (.ref d :: vs ++ []) H2 Q E
  rw [List.append_nil]
  obtain ⟨v', M', ev', ⟨ed, ⟨xs, ok, hd⟩, hM⟩, hb, hF, op⟩ := S2.opn hi
  subst ed
  have hbd : B2 d = none := hb d ((hM d).mpr rfl)
  refine ⟨B2, d, vs, ds, xs, rfl, S2.bh, hbd, hd, ok, ha, hn, hp, fun v B3 H3 r xs' e3 bh3 h3 nw3 hd3 ok3 hr hT => ?_⟩
  have hb3 : B3 d = none := by
    cases z : B3 d with
    | none => rfl
    | some o =>
      rcases nw3 d o z with y | y
      · rw [hbd] at y; cases y
      · rw [hd] at y; cases y
  have S3 := op B3 H3 (some (.ref d)) (.ow (RDi d)) (fun a => a = d) e3 bh3 (fun a o ha' nm => h3 a o (fun z => nm ((hM a).mpr z)) ha') (fun a o z => (nw3 a o z).imp id .inl) ⟨_, rfl, ⟨rfl, ⟨xs', ok3, hd3⟩, fun _ => Iff.rfl⟩, fun a z => by rw [z]; exact hb3⟩ (fun a z => .inl ((hM a).mpr z))
  rw [set_self ev', set_selfD hi] at S3
  have f3 : ∀ a, F a → H3 a = H a := fun a z => by
    obtain ⟨o, ho⟩ := some_of_ne (S2.fl a z)
    rw [h3 a o (fun y => hF a ((hM a).mpr y) z) ho, ← ho, f a z]
  cases r with
  | d z => exact k v (fun _ => False) (.pu z) B3 H3 δ1 (e.trans e3) f3 (S3.less fun a z => z.elim id False.elim) ⟨hr, fun _ z => z⟩ (fun _ z => z.elim) (q _ hT)
  | l zs =>
    obtain ⟨p, ys, rfl, hp0, hbp, hp3, hx⟩ := hr
    have S4 : Sd K B3 H3 σ δ1 (fun a => F a ∨ a = p) := by
      obtain ⟨ms, h1, h2, h3', h4⟩ := S3.sl
      obtain ⟨ms0, k1, k2, k3, k4⟩ := S2.sl
      have live2 : ∀ j a, ms0 j a → H2 a ≠ none := fun j a hj => by
        have hl := k4 j a hj
        have q2 := k1 j δ1[j] (List.getElem?_eq_getElem hl)
        cases e5 : δ1[j] with
        | non => rw [e5] at q2; exact absurd hj (q2 a)
        | pu x => rw [e5] at q2; obtain ⟨_, _, _, z⟩ := q2; exact absurd hj (z a)
        | ow R => rw [e5] at q2; obtain ⟨_, _, hP, _⟩ := q2; exact R.live hP a hj
        | al j => rw [e5] at q2; exact q2.elim
      -- the same footprints as before the call
      refine ⟨bh3, S3.len, fun a ha => ?_, fun a ha => ?_, ms0, fun j s hs => ?_, k2, fun j a q z => ?_, k4⟩
      · rcases ha with z | rfl
        · exact S3.fb a z
        · exact hbp
      · rcases ha with z | rfl
        · exact S3.fl a z
        · rw [hp3]; exact fun z => nomatch z
      · have q2 := k1 j s hs
        cases s with
        | non => exact q2
        | pu x => obtain ⟨u, e5, hdx, hMx⟩ := q2; exact ⟨u, e5, dp_mono e3 _ _ hdx, hMx⟩
        | ow R =>
          obtain ⟨u, e5, hP, hbb⟩ := q2
          by_cases hjd : ms0 j d
          · -- the slot of the draws itself
            obtain ⟨u3, e6, hP3, hb3'⟩ := h1 j _ hs
            have hij : j = i := by
              obtain ⟨u4, e7, hP4, _⟩ := k1 i _ hi
              exact k2 j i d hjd ((hP4.2.2 d).mpr rfl)
            subst hij
            rw [hi] at hs
            cases hs
            have eM : ms0 j = fun a => a = d := funext fun a => propext (hP.2.2 a)
            rw [eM]
            exact ⟨.ref d, ev', ⟨rfl, ⟨xs', ok3, hd3⟩, fun _ => Iff.rfl⟩, fun a z => by rw [z]; exact hb3⟩
          · have same : ∀ a, ms0 j a → H3 a = H2 a := fun a ha => by
              obtain ⟨o, ho⟩ := some_of_ne (live2 j a ha)
              rw [ho]
              exact h3 a o (fun z => hjd (by rw [← z]; exact ha)) ho
            refine ⟨u, e5, R.loc hP e3 same, fun a ha => ?_⟩
            cases z : B3 a with
            | none => rfl
            | some o =>
              rcases nw3 a o z with y | y
              · rw [hbb a ha] at y; cases y
              · exact absurd y (live2 j a ha)
        | al j => exact q2
      · rcases z with z | rfl
        · exact k3 j a q z
        · exact live2 j a q hp0
    exact k (.ref p) (fun a => a = p) (.ow (RL K zs)) B3 H3 δ1 (e.trans e3) f3 S4 ⟨p, ys, rfl, hp3, hx, fun _ => Iff.rfl⟩ (fun a z z2 => S2.fl a z2 (by rw [z]; exact hp0)) (q _ hT)
/-- a def whose first argument is the list of draws, by its body -/
theorem body_Di {n : Nat} {pre : List PyData → Prop} {T : List PyData → Rt → Prop} {N : List Str} {vs : List V} {H : Hp} {Q : VK} {E : XK} (h : spDi K n pre T vs H Q E)
    (hx : ∀ d ds, ds.length = n → pre ds → ExS K t { nx := fun δ2 => T ds (.d .none) ∧ δ2[0]? = some (.ow (RDi d)), rt := fun s δ2 => RtS K (T ds) s δ2 ∧ δ2[0]? = some (.ow (RDi d)) ∧ s ≠ .al 0 } (.ow (RDi d) :: (ds.map Slot.pu ++ List.replicate (N.length - (ds.length + 1)) Slot.non))) : t { nx := fun _ H' => Q .non H', rt := Q } (L2.start N vs) H := by
  obtain ⟨B, d, rest, ds, xs, rfl, eB, hbd, hd, ok, ha, hn, hp, q⟩ := h
  have hl := dpa_len ha
  let F : Addr → Prop := fun a => H a ≠ none ∧ B a = none ∧ a ≠ d
  have est : L2.start N (.ref d :: rest) = some (.ref d) :: (rest.map some ++ List.replicate (N.length - (rest.length + 1)) none) := by
    unfold L2.start
    rw [List.map_cons, List.length_cons, List.cons_append]
  have S0 : Sd K B H (L2.start N (.ref d :: rest)) (.ow (RDi d) :: (ds.map Slot.pu ++ List.replicate (N.length - (ds.length + 1)) Slot.non)) F := by
    rw [est]
    refine ⟨eB, by simp [hl], fun a z => z.2.1, fun a z => z.1, fun i a => i = 0 ∧ a = d, fun i s hs => ?_, fun i j a z1 z2 => by rw [z1.1, z2.1], fun i a z f => f.2.2 z.2, fun i a z => by rw [z.1]; exact Nat.zero_lt_succ _⟩
    cases i with
    | zero =>
      rw [List.getElem?_cons_zero] at hs
      cases hs
      exact ⟨.ref d, rfl, ⟨rfl, ⟨xs, ok, hd⟩, fun a => ⟨fun z => z.2, fun z => ⟨rfl, z⟩⟩⟩, fun a z => by rw [z.2]; exact hbd⟩
    | succ i =>
      rw [List.getElem?_cons_succ] at hs
      by_cases hlt : i < ds.length
      · rw [List.getElem?_append_left (by rw [List.length_map]; exact hlt), List.getElem?_map] at hs
        cases hdi : ds[i]? with
        | none => rw [hdi] at hs; cases hs
        | some x =>
          rw [hdi] at hs
          cases hs
          obtain ⟨v, hv, hxx⟩ := dpa_get ha hdi
          rw [List.getElem?_cons_succ, List.getElem?_append_left (by rw [List.length_map, hl]; exact hlt), List.getElem?_map, hv]
          exact ⟨v, rfl, hxx, fun _ z => nomatch z.1⟩
      · rw [List.getElem?_append_right (by rw [List.length_map]; omega)] at hs
        rw [List.eq_of_mem_replicate (List.mem_of_getElem? hs)]
        exact fun _ z => nomatch z.1
  have fin : ∀ B2 H2 σ2 δ2 F', Ex B B2 → (∀ a, F a → H2 a = H a) → Sd K B2 H2 σ2 δ2 F' → (∀ a, F a → F' a) → δ2[0]? = some (.ow (RDi d)) → Ex B2 H2 ∧ (∀ a o, a ≠ d → H a = some o → H2 a = some o) ∧ (∀ a o, B2 a = some o → B a = some o ∨ H a = none) ∧ ∃ xs', H2 d = some (.lst (xs'.map V.int)) ∧ DiceOk xs' ∧ B2 d = none := fun B2 H2 σ2 δ2 F' e f S hF' h0 => by
    obtain ⟨v, M, ev, ⟨_, ⟨xs', ok', hd'⟩, hM⟩, hb, _⟩ := S.opn h0
    have hbd2 : B2 d = none := hb d ((hM d).mpr rfl)
    refine ⟨S.bh, fun a o hne ho => ?_, fun a o ho => ?_, xs', hd', ok', hbd2⟩
    · cases hba : B a with
      | none => rw [f a ⟨nn_of ho, hba, hne⟩]; exact ho
      | some o' =>
        have e1 := eB a o' hba
        rw [ho] at e1
        cases e1
        exact S.bh a o (e a o hba)
    · cases hba : B a with
      | some o' => exact .inl (by rw [e a o' hba] at ho; exact ho)
      | none =>
        refine .inr ?_
        cases hh : H a with
        | none => rfl
        | some u =>
          by_cases hne : a = d
          · rw [hne, hbd2] at ho; cases ho
          · rw [S.fb a (hF' a ⟨nn_of hh, hba, hne⟩)] at ho; cases ho
  have fresh : ∀ (B2 : Hp) (p : Addr), Ex B B2 → B2 p = none → ¬ F p → p ≠ d → H p = none := fun B2 p e hb nf hne => by
    cases hh : H p with
    | none => rfl
    | some u => exact absurd ⟨nn_of hh, exnone e hb, hne⟩ nf
  refine hx d ds hn hp B H _ F _ S0 ⟨fun B2 H2 σ2 δ2 e f S ⟨p, p0⟩ => ?_, fun _ _ _ _ _ _ _ z => z.elim, fun _ _ _ _ _ _ _ z => z.elim, fun v M s B2 H2 σ2 δ2 e f S w n ⟨p, p0, p1⟩ => ?_⟩
  · obtain ⟨g1, g2, g3, xs', g4, g5, g6⟩ := fin B2 H2 σ2 δ2 F e f S (fun _ z => z) p0
    exact q .non B2 H2 (.d .none) xs' e g1 g2 g3 g4 g5 .non p
  · obtain ⟨g1, g2, g3, xs', g4, g5, g6⟩ := fin B2 H2 σ2 δ2 _ e f S (fun _ z => .inl z) p0
    have S' : Sd K B2 H2 σ2 δ2 F := S.less fun a z => .inl z
    rcases p with ⟨z, rfl, hT⟩ | ⟨zs, hs, hT⟩
    · exact q v B2 H2 (.d z) xs' e g1 g2 g3 g4 g5 w.1 hT
    · rcases hs with rfl | ⟨i, rfl, hi⟩
      · obtain ⟨p, ys, rfl, h3, hxx, hM⟩ := w
        have hb2 : B2 p = none := S.fb p (.inr ((hM p).mpr rfl))
        have hne : p ≠ d := fun z => by
          obtain ⟨ms, k1, k2, k3, k4⟩ := S.sl
          obtain ⟨u, eu, hP, _⟩ := k1 0 _ p0
          exact k3 0 d ((hP.2.2 d).mpr rfl) (.inr ((hM d).mpr z.symm))
        exact q _ B2 H2 (.l zs) xs' e g1 g2 g3 g4 g5 ⟨p, ys, rfl, fresh B2 p e hb2 (n p ((hM p).mpr rfl)) hne, hb2, h3, hxx⟩ hT
      · obtain ⟨v', M', ev, ⟨p, ys, rfl, h3, hxx, hM⟩, hb, hF, _⟩ := S'.opn hi
        rw [w.1] at ev
        cases ev
        have hb2 : B2 p = none := hb p ((hM p).mpr rfl)
        have hne : p ≠ d := fun z => by
          obtain ⟨ms, k1, k2, k3, k4⟩ := S'.sl
          obtain ⟨u, eu, hP, _⟩ := k1 0 _ p0
          obtain ⟨u2, eu2, hP2, _⟩ := k1 i _ hi
          obtain ⟨p2, ys2, e7, h8, _, hM2⟩ := hP2
          rw [w.1] at eu2
          cases eu2
          cases e7
          have e9 := k2 0 i d ((hP.2.2 d).mpr rfl) ((hM2 d).mpr z.symm)
          exact p1 (by rw [← e9])
        exact q _ B2 H2 (.l zs) xs' e g1 g2 g3 g4 g5 ⟨p, ys, rfl, fresh B2 p e hb2 (hF p ((hM p).mpr rfl)) hne, hb2, h3, hxx⟩ hT
theorem cal_Di {P : Program} {mg : Str → Option Value} {base : Heap} {x : Str} {st : Stmt} {f : Addr} {fd : FuncData} {N ps : List Str} {k n : Nat} {pre : List PyData → Prop} {T : List PyData → Rt → Prop}
    (F : Fun K x x st f fd) (hm : mg x = some (.ref f)) (hb : Binds K fd ps []) (S : FnScope N ps (defScope st)) (hn : ps.length = n + 1 := by rfl)
    (hbody : ∀ (cdv : Value) (A : Around) (outer : List Env) (s : Shared) (H : Hp) (E : XK), Room k (A.deeper (envOfC x (defScope st) s.heap.objs.size f cdv)) →
      ∃ t, PSs (cxOf CX0 P w K mg base N x (defScope st) f cdv A outer s H E).nox (defBody st) t ∧ ∀ d ds, ds.length = n → pre ds → ExS K t { nx := fun δ2 => T ds (.d .none) ∧ δ2[0]? = some (.ow (RDi d)), rt := fun s δ2 => RtS K (T ds) s δ2 ∧ δ2[0]? = some (.ow (RDi d)) ∧ s ≠ .al 0 } (.ow (RDi d) :: (ds.map Slot.pu ++ List.replicate (N.length - (ds.length + 1)) Slot.non))) : Cal P w K mg base (k + 1) x (spDi K n pre T) := by
  refine ⟨f, fd, ps, F.ok S (fun vs H Q E h => by rw [spDi_len h, hn]) (fun cdv A outer s H vs Q E hr h => ?_), hm, F.kp, hb⟩
  obtain ⟨t, ht, hx⟩ := hbody cdv A outer s H E hr
  exact ⟨t, ht, body_Di h hx⟩
end
end Dl

namespace Dl
open PySem PySem.Spec PyProof.Rows L2
open Evl (Ex)
/-! ### dicts with int keys at names -/
inductive KvAll (K : PySem.W.Frag) (B : Hp) : List (Key × V) → List (Int × PyData) → Prop
  | nil : KvAll K B [] []
  | cons {i : Int} {v : V} {d : PyData} {xs : List (Key × V)} {kvs : List (Int × PyData)} : Dp K B v d → KvAll K B xs kvs → KvAll K B ((Sum.inl i, v) :: xs) ((i, d) :: kvs)
def lookI (kvs : List (Int × PyData)) (k : Int) : Option PyData := (kvs.find? fun kv => decide (kv.1 = k)).map (·.2)
def putI (kvs : List (Int × PyData)) (k : Int) (d : PyData) : List (Int × PyData) :=
  if (kvs.any fun kv => decide (kv.1 = k)) = true then kvs.map (fun kv => if kv.1 = k then (kv.1, d) else kv) else kvs ++ [(k, d)]
section
variable {K : PySem.W.Frag} {B B' : Hp}
theorem kva_mono (e : Ex B B') : ∀ {xs : List (Key × V)} {kvs : List (Int × PyData)}, KvAll K B xs kvs → KvAll K B' xs kvs
  | _, _, .nil => .nil
  | _, _, .cons h t => .cons (dp_mono e _ _ h) (kva_mono e t)
theorem kva_len : ∀ {xs : List (Key × V)} {kvs : List (Int × PyData)}, KvAll K B xs kvs → xs.length = kvs.length
  | _, _, .nil => rfl
  | _, _, .cons _ t => by simp [kva_len t]
theorem key_inl (i k : Int) : decide ((Sum.inl i : Key) = Sum.inl k) = decide (i = k) := by
  by_cases e : i = k
  · subst e; simp
  · have h : ¬ (Sum.inl i : Key) = Sum.inl k := fun z => e (Sum.inl.inj z)
    simp [e, h]
theorem kva_look {k : Int} : ∀ {xs : List (Key × V)} {kvs : List (Int × PyData)}, KvAll K B xs kvs → (lookI kvs k = none ∧ valV xs (Sum.inl k) = none) ∨ ∃ d v, lookI kvs k = some d ∧ valV xs (Sum.inl k) = some v ∧ Dp K B v d
  | _, _, .nil => .inl ⟨rfl, rfl⟩
  | _, _, @KvAll.cons _ _ i v d xs kvs h t => by
    by_cases e : i = k
    · subst e
      refine .inr ⟨d, v, ?_, valV_pos rfl, h⟩
      simp [lookI, List.find?_cons]
    · have e1 : lookI ((i, d) :: kvs) k = lookI kvs k := by simp [lookI, List.find?_cons, e]
      have e2 : valV ((Sum.inl i, v) :: xs) (Sum.inl k : Key) = valV xs (Sum.inl k) := valV_neg fun z => e (Sum.inl.inj z)
      rw [e1, e2]
      exact kva_look t
theorem kva_any {k : Int} : ∀ {xs : List (Key × V)} {kvs : List (Int × PyData)}, KvAll K B xs kvs → (xs.any fun kv => decide (kv.1 = (Sum.inl k : Key))) = (kvs.any fun kv => decide (kv.1 = k))
  | _, _, .nil => rfl
  | _, _, @KvAll.cons _ _ i v d xs kvs h t => by
    rw [List.any_cons, List.any_cons, kva_any t]
    show (decide ((Sum.inl i : Key) = Sum.inl k) || _) = _
    rw [key_inl]
theorem kva_app : ∀ {xs ys : List (Key × V)} {kvs lvs : List (Int × PyData)}, KvAll K B xs kvs → KvAll K B ys lvs → KvAll K B (xs ++ ys) (kvs ++ lvs)
  | _, _, _, _, .nil, s => s
  | _, _, _, _, .cons r t, s => .cons r (kva_app t s)
theorem kva_map {k : Int} {v : V} {d : PyData} (hd : Dp K B v d) : ∀ {xs : List (Key × V)} {kvs : List (Int × PyData)}, KvAll K B xs kvs → KvAll K B (xs.map fun kv => if kv.1 = (Sum.inl k : Key) then (kv.1, v) else kv) (kvs.map fun kv => if kv.1 = k then (kv.1, d) else kv)
  | _, _, .nil => .nil
  | _, _, @KvAll.cons _ _ i v' d' xs kvs h t => by
    rw [List.map_cons, List.map_cons]
    by_cases e : i = k
    · subst e
      rw [if_pos rfl, if_pos rfl]
      exact .cons hd (kva_map hd t)
    · rw [if_neg e, if_neg (fun z => e (Sum.inl.inj z))]
      exact .cons h (kva_map hd t)
theorem kva_put {k : Int} {v : V} {d : PyData} (hd : Dp K B v d) {xs : List (Key × V)} {kvs : List (Int × PyData)} (h : KvAll K B xs kvs) : KvAll K B (putK xs (Sum.inl k) v) (putI kvs k d) := by
  unfold putK putI
  rw [kva_any h]
  split
  · exact kva_map hd h
  · exact kva_app h (.cons hd .nil)
end
/-- a dict with int keys, owned -/
def RDk (K : PySem.W.Frag) (kvs : List (Int × PyData)) : Res where
  P v B H M := ∃ p xs, v = .ref p ∧ H p = some (.dK xs) ∧ KvAll K B xs kvs ∧ ∀ a, M a ↔ a = p
  loc := by
    rintro v B H B' H' M ⟨p, xs, rfl, hp, hd, hM⟩ e k
    exact ⟨p, xs, rfl, by rw [k p ((hM p).mpr rfl)]; exact hp, kva_mono e hd, hM⟩
  live := by
    rintro v B H M ⟨p, xs, rfl, hp, hd, hM⟩ a ha
    rw [(hM a).mp ha, hp]
    exact fun z => nomatch z
section
variable {K : PySem.W.Frag} {w : World} {δ : List Slot} {te ta tb tc : TE} {tr : TA} {tt : TT} {t u : TS} {d : Dn} {Φ : Slot → List Slot → Prop}
theorem ev_dnew (h : Φ (.ow (RDk K [])) δ) : EvS K tDNewK δ Φ := fun B H σ F Q S k p hp =>
  k (.ref p) (fun a => a = p) (.ow (RDk K [])) B _ δ (Ex.refl _) (fun a z => upd_ne fun e => S.fl a z (by rw [e]; exact hp)) (sd_own S hp) ⟨p, [], rfl, upd_same, .nil, fun _ => Iff.rfl⟩ (fun a z f => S.fl a f (by rw [z]; exact hp)) h
theorem dk_at {B H : Hp} {σ : L2.St} {F : Addr → Prop} {j : Nat} {kvs : List (Int × PyData)} (S : Sd K B H σ δ F) (hj : δ[j]? = some (.ow (RDk K kvs))) : ∃ p xs, σ[j]? = some (some (.ref p)) ∧ H p = some (.dK xs) ∧ KvAll K B xs kvs := by
  obtain ⟨v, M, ev, ⟨p, xs, rfl, hp, ha, _⟩, _⟩ := S.opn hj
  exact ⟨p, xs, ev, hp, ha⟩
theorem ev_dnotin {j : Nat} (h : EvS K te δ fun s δ1 => ∃ (i : Int) (kvs : List (Int × PyData)), s = .pu (.int i) ∧ δ1[j]? = some (.ow (RDk K kvs)) ∧ Φ (.pu (.bool (!(lookI kvs i).isSome))) δ1) : EvS K (tDNotIn te (tVar j)) δ Φ := fun B H σ F Q S k =>
  h B H σ F _ S fun v M s B1 H1 δ1 e1 f1 S1 w1 n1 ⟨i, kvs, es, hj, q⟩ => by
    subst es
    have S1' : Sd K B1 H1 σ δ1 F := S1.less fun a z => .inl z
    obtain ⟨p, xs, ev, hp, ha⟩ := dk_at S1' hj
    refine ⟨_, ev, p, valV xs (Sum.inl i), rfl, by rw [dp_int_inv w1.1]; exact DGet.k (k := Sum.inl i) hp, ?_⟩
    have e : (valV xs (Sum.inl i)).isSome = (lookI kvs i).isSome := by
      rcases kva_look (k := i) ha with ⟨a, b⟩ | ⟨_, _, a, b, _⟩ <;> rw [a, b] <;> rfl
    rw [e]
    exact k _ (fun _ => False) (.pu (.bool _)) B1 H1 δ1 e1 f1 (S1'.less fun a z => z.elim id False.elim) ⟨.bl _, fun _ z => z⟩ (fun _ z => z.elim) q
theorem ev_dget {j : Nat} (h : ∃ kvs0, δ[j]? = some (.ow (RDk K kvs0)) ∧ EvS K te δ fun s δ1 => ∃ (i : Int) (kvs : List (Int × PyData)) (x : PyData), s = .pu (.int i) ∧ δ1[j]? = some (.ow (RDk K kvs)) ∧ lookI kvs i = some x ∧ Φ (.pu x) δ1) : EvS K (tDGet (tVar j) te) δ Φ := fun B H σ F Q S k => by
  obtain ⟨kvs0, h0, h⟩ := h
  obtain ⟨p0, xs0, ev0, _, _⟩ := dk_at S h0
  refine ⟨_, ev0, h B H σ F _ S fun v M s B1 H1 δ1 e1 f1 S1 w1 n1 ⟨i, kvs, x, es, hj, hx, q⟩ => ?_⟩
  subst es
  have S1' : Sd K B1 H1 σ δ1 F := S1.less fun a z => .inl z
  obtain ⟨p, xs, ev, hp, ha⟩ := dk_at S1' hj
  rw [ev0] at ev
  cases ev
  rcases kva_look (k := i) ha with ⟨a, b⟩ | ⟨y, u, a, b, hd⟩
  · rw [hx] at a; cases a
  · rw [hx] at a
    cases a
    refine ⟨p0, u, rfl, by rw [dp_int_inv w1.1, ← b]; exact DGet.k (k := Sum.inl i) hp, ?_⟩
    exact k u (fun _ => False) (.pu x) B1 H1 δ1 e1 f1 (S1'.less fun a z => z.elim id False.elim) ⟨hd, fun _ z => z⟩ (fun _ z => z.elim) q
theorem xs_dput {j : Nat} (h : EvD K te δ fun x δ1 => ∃ kvs0, δ1[j]? = some (.ow (RDk K kvs0)) ∧ EvS K tb δ1 fun s δ2 => ∃ (i : Int) (kvs : List (Int × PyData)), s = .pu (.int i) ∧ δ2[j]? = some (.ow (RDk K kvs)) ∧ kvs.length < 100000 ∧ d.nx (δ2.set j (.ow (RDk K (putI kvs i x))))) : ExS K (sDPut (tVar j) tb te) d δ := fun B H σ F D S L =>
  h B H σ F _ S fun v x B1 H1 δ1 e1 f1 S1 hd ⟨kvs0, h0, p⟩ => by
    obtain ⟨p0, xs0, ev0, _, _⟩ := dk_at S1 h0
    refine ⟨_, ev0, p B1 H1 σ F _ S1 fun u M s B2 H2 δ2 e2 f2 S2 w2 n2 ⟨i, kvs, es, hj, hl, q⟩ => ?_⟩
    subst es
    have S2' : Sd K B2 H2 σ δ2 F := S2.less fun a z => .inl z
    obtain ⟨vv, MM, ev, ⟨pp, xs, rfl, hp, ha, hM⟩, hb, hF, op⟩ := S2'.opn hj
    rw [ev0] at ev
    cases ev
    have hbp : B2 p0 = none := hb p0 ((hM p0).mpr rfl)
    refine ⟨p0, _, rfl, by rw [dp_int_inv w2.1]; exact DPut.k (k := Sum.inl i) hp (Evl.sz_lt (by rw [kva_len ha]; exact hl)), ?_⟩
    have q2 := op B2 (upd H2 p0 (.dK (putK xs (Sum.inl i) v))) (some (.ref p0)) (.ow (RDk K (putI kvs i x))) (fun a => a = p0) (Ex.refl _) (fun a u ha' => by
      rw [upd_ne (fun e => by rw [e, hbp] at ha'; cases ha')]
      exact S2'.bh a u ha') (fun a o ha' nm => by rw [upd_ne (fun e => nm ((hM a).mpr e))]; exact ha') (fun _ _ z => .inl z)
      ⟨_, rfl, ⟨p0, _, rfl, upd_same, kva_put (dp_mono e2 _ _ hd) ha, fun _ => Iff.rfl⟩, fun a z => by rw [z]; exact hbp⟩ (fun a z => .inl ((hM a).mpr z))
    rw [set_self ev0] at q2
    exact L.nx B2 _ σ _ (e1.trans e2) (fun a z => by rw [upd_ne (fun e => hF a ((hM a).mpr e) z), f2 a z, f1 a z]) q2 q
/-! ### freshly rolled draws -/
theorem xs_dice {j : Nat} {xs : List Int} (hj : δ[j]? = some (.ow (RL K (xs.map PyData.int)))) (ok : DiceOk xs) (h : ∀ a, ExS K t d (δ.set j (.ow (RDi a)))) : ExS K t d δ := fun B H σ F D S L => by
  obtain ⟨v, M, ev, ⟨p, ys, rfl, hp, ha, hM⟩, hb, hF, op⟩ := S.opn hj
  rw [dpa_ints_inv ha] at hp
  have q := op B H (some (.ref p)) (.ow (RDi p)) M (Ex.refl _) S.bh (fun _ _ h _ => h) (fun _ _ h => .inl h) ⟨_, rfl, ⟨rfl, ⟨xs, ok, hp⟩, hM⟩, hb⟩ (fun a z => .inl z)
  rw [set_self ev] at q
  exact h p B H σ F D q L
end
end Dl

namespace Dl
open PySem PySem.Spec PyProof.Rows L2
open Evl (Ex)
section
variable {K : PySem.W.Frag} {w : World} {δ : List Slot} {te ta tb tc : TE} {tr : TA} {tt : TT} {t u : TS} {d : Dn} {Φ : Slot → List Slot → Prop}
theorem ev_eqX (h : EvS K ta δ fun s1 δ1 => EvS K tb δ1 fun s2 δ2 => (∃ i j : Int, s1 = .pu (.int i) ∧ s2 = .pu (.int j) ∧ Φ (.pu (.bool (decide (i = j)))) δ2) ∨ (∃ i j : Str, s1 = .pu (.str i) ∧ s2 = .pu (.str j) ∧ Φ (.pu (.bool (decide (i = j)))) δ2) ∨ ∃ x y, s1 = .pu x ∧ s2 = .pu y ∧ scF x y = true ∧ Φ (.pu (.bool (eqF x y))) δ2) : EvS K (tOp rEq ta tb) δ Φ :=
  ev_eq (h.imp fun s1 δ1 h1 => h1.imp fun s2 δ2 h2 => by
    rcases h2 with ⟨i, j, e1, e2, q⟩ | ⟨i, j, e1, e2, q⟩ | ⟨x, y, e1, e2, c, q⟩
    · exact ⟨_, _, e1, e2, rfl, by rw [eqF_int]; exact q⟩
    · exact ⟨_, _, e1, e2, rfl, by rw [eqF_str]; exact q⟩
    · exact ⟨x, y, e1, e2, c, q⟩)
theorem ev_neX (h : EvS K ta δ fun s1 δ1 => EvS K tb δ1 fun s2 δ2 => (∃ i j : Int, s1 = .pu (.int i) ∧ s2 = .pu (.int j) ∧ Φ (.pu (.bool (!decide (i = j)))) δ2) ∨ (∃ i j : Str, s1 = .pu (.str i) ∧ s2 = .pu (.str j) ∧ Φ (.pu (.bool (!decide (i = j)))) δ2) ∨ ∃ x y, s1 = .pu x ∧ s2 = .pu y ∧ scF x y = true ∧ Φ (.pu (.bool (!eqF x y))) δ2) : EvS K (tOp rNe ta tb) δ Φ :=
  ev_ne (h.imp fun s1 δ1 h1 => h1.imp fun s2 δ2 h2 => by
    rcases h2 with ⟨i, j, e1, e2, q⟩ | ⟨i, j, e1, e2, q⟩ | ⟨x, y, e1, e2, c, q⟩
    · exact ⟨_, _, e1, e2, rfl, by rw [eqF_int]; exact q⟩
    · exact ⟨_, _, e1, e2, rfl, by rw [eqF_str]; exact q⟩
    · exact ⟨x, y, e1, e2, c, q⟩)
theorem ev_inX {neg : Bool} (h : EvS K ta δ fun s1 δ1 => EvS K tb δ1 fun s2 δ2 => (∃ (i : Int) (ns : List Int), s1 = .pu (.int i) ∧ (den K δ2 s2 (.list (ns.map PyData.int)) ∨ den K δ2 s2 (.tuple (ns.map PyData.int))) ∧ Φ (.pu (.bool (if neg then !decide (i ∈ ns) else decide (i ∈ ns)))) δ2) ∨
    (∃ (i : Str) (ns : List Str), s1 = .pu (.str i) ∧ (den K δ2 s2 (.list (ns.map PyData.str)) ∨ den K δ2 s2 (.tuple (ns.map PyData.str))) ∧ Φ (.pu (.bool (if neg then !decide (i ∈ ns) else decide (i ∈ ns)))) δ2) ∨
    ∃ x ds, s1 = .pu x ∧ (den K δ2 s2 (.list ds) ∨ den K δ2 s2 (.tuple ds)) ∧ flatD x = true ∧ ds.all flatD = true ∧ Φ (.pu (.bool (if neg then !memD x ds else memD x ds))) δ2) : EvS K (tOp (rIn K neg) ta tb) δ Φ :=
  ev_in (h.imp fun s1 δ1 h1 => h1.imp fun s2 δ2 h2 => by
    rcases h2 with ⟨i, ns, e1, e2, q⟩ | ⟨i, ns, e1, e2, q⟩ | ⟨x, y, e1, e2, c, c2, q⟩
    · exact ⟨_, _, e1, e2, rfl, all_ints ns, by rw [memD_int]; exact q⟩
    · exact ⟨_, _, e1, e2, rfl, all_strs ns, by rw [memD_str]; exact q⟩
    · exact ⟨x, y, e1, e2, c, c2, q⟩)
/-- xs != [], xs == [] -/
theorem eqv_nil (ds : List PyData) : PyData.eqv (.list ds) (.list []) = ds.isEmpty := by
  cases ds <;> simp [PyData.eqv, PyData.eqvAll]
theorem eqvT_nil (ds : List PyData) : PyData.eqv (.tuple ds) (.tuple []) = ds.isEmpty := by
  cases ds <;> simp [PyData.eqv, PyData.eqvAll]
theorem shaped_nil : SeqAt.shaped (.list []) = true := by decide +kernel
theorem shapedT_nil : SeqAt.shaped (.tuple []) = true := by decide +kernel
theorem ev_nilD (h : Φ (.ow (RL K [])) δ) : EvS K (tLst tNil) δ Φ := ev_lst (eds_nil ⟨Nat.zero_le _, h⟩)
theorem ev_neNil (h : EvS K ta δ fun s δ1 => ∃ ds, den K δ1 s (.list ds) ∧ SeqAt.shaped (.list ds) = true ∧ Φ (.pu (.bool (!ds.isEmpty))) δ1) : EvS K (tOp (rNeD K) ta (tLst tNil)) δ Φ :=
  ev_neD (h.imp fun s δ1 ⟨ds, h1, h2, q⟩ => ev_nilD ⟨_, _, h1, den_ow, h2, shaped_nil, by rw [eqv_nil]; exact q⟩)
theorem ev_eqNil (h : EvS K ta δ fun s δ1 => ∃ ds, den K δ1 s (.list ds) ∧ SeqAt.shaped (.list ds) = true ∧ Φ (.pu (.bool ds.isEmpty)) δ1) : EvS K (tOp (rEqD K) ta (tLst tNil)) δ Φ :=
  ev_eqD (h.imp fun s δ1 ⟨ds, h1, h2, q⟩ => ev_nilD ⟨_, _, h1, den_ow, h2, shaped_nil, by rw [eqv_nil]; exact q⟩)
end
/-! ### shapes -/
/-! ### a def as the head gives it -/
structure Df (K : PySem.W.Frag) (mg : Str → Option Value) (x : Str) (st : Stmt) (ps : List Str) : Prop where
  ex : ∃ f fd, Fun K x x st f fd ∧ mg x = some (.ref f) ∧ Binds K fd ps []
section
variable {P : Program} {w : World} {K : PySem.W.Frag} {mg : Str → Option Value} {base : Heap} {x : Str} {st : Stmt} {N ps : List Str} {k n : Nat} {pre : List PyData → Prop} {T : List PyData → Rt → Prop}
theorem calP (D : Df K mg x st ps) (S : FnScope N ps (defScope st)) (hn : ps.length = n)
    (hbody : ∀ (f : Addr) (cdv : Value) (A : Around) (outer : List Env) (s : Shared) (H : Hp) (E : XK), Room k (A.deeper (envOfC x (defScope st) s.heap.objs.size f cdv)) →
      ∃ t, PSs (cxOf CX0 P w K mg base N x (defScope st) f cdv A outer s H E).nox (defBody st) t ∧ ∀ ds, ds.length = n → pre ds → ExS K t { nx := fun _ => T ds (.d .none), rt := RtS K (T ds) } (ds.map Slot.pu ++ List.replicate (N.length - ds.length) Slot.non)) : Cal P w K mg base (k + 1) x (spP K n pre T) := by
  obtain ⟨f, fd, F, hm, hb⟩ := D.ex
  exact cal_P F hm hb S hn (hbody f)
theorem calDi (D : Df K mg x st ps) (S : FnScope N ps (defScope st)) (hn : ps.length = n + 1)
    (hbody : ∀ (f : Addr) (cdv : Value) (A : Around) (outer : List Env) (s : Shared) (H : Hp) (E : XK), Room k (A.deeper (envOfC x (defScope st) s.heap.objs.size f cdv)) →
      ∃ t, PSs (cxOf CX0 P w K mg base N x (defScope st) f cdv A outer s H E).nox (defBody st) t ∧ ∀ d ds, ds.length = n → pre ds → ExS K t { nx := fun δ2 => T ds (.d .none) ∧ δ2[0]? = some (.ow (RDi d)), rt := fun s δ2 => RtS K (T ds) s δ2 ∧ δ2[0]? = some (.ow (RDi d)) ∧ s ≠ .al 0 } (.ow (RDi d) :: (ds.map Slot.pu ++ List.replicate (N.length - (ds.length + 1)) Slot.non))) : Cal P w K mg base (k + 1) x (spDi K n pre T) := by
  obtain ⟨f, fd, F, hm, hb⟩ := D.ex
  exact cal_Di F hm hb S hn (hbody f)
end
/-! ### built-in names are the built-ins -/
structure Bn (mg : Str → Option Value) : Prop where
  len : mg "len" = none
  range : mg "range" = none
  sorted : mg "sorted" = none
  set_ : mg "set" = none
  isinstance : mg "isinstance" = none
  enumerate : mg "enumerate" = none
  list : mg "list" = none
  tuple : mg "tuple" = none
  abs : mg "abs" = none
  min : mg "min" = none
  max : mg "max" = none
  int : mg "int" = none
  str : mg "str" = none
  bool : mg "bool" = none
  dict : mg "dict" = none
  all : mg "all" = none
  sum : mg "sum" = none
end Dl

namespace Dl
open PySem PySem.Spec PyProof.Rows L2
open Evl (Ex)
/-- a slot that may be wiped -/
def Junk (s : Slot) : Prop := s = .non ∨ ∃ d, s = .pu d
theorem junk_non : Junk .non := .inl rfl
theorem junk_pu {d : PyData} : Junk (.pu d) := .inr ⟨d, rfl⟩
theorem wip1 {δ : List Slot} {j : Nat} {x : Slot} (h : δ[j]? = some x) (hx : Junk x) : Wip δ [j] := fun i hi s hs => by
  rw [List.mem_singleton.mp hi, h] at hs
  cases hs
  exact hx
theorem wip2 {δ : List Slot} {j l : Nat} {x y : Slot} (h : δ[j]? = some x) (hx : Junk x) (h2 : δ[l]? = some y) (hy : Junk y) : Wip δ [j, l] := fun i hi s hs => by
  rcases List.mem_cons.mp hi with e | hi
  · rw [e, h] at hs
    cases hs
    exact hx
  · rw [List.mem_singleton.mp hi, h2] at hs
    cases hs
    exact hy
theorem wip3 {δ : List Slot} {j l m : Nat} {x y z : Slot} (h : δ[j]? = some x) (hx : Junk x) (h2 : δ[l]? = some y) (hy : Junk y) (h3 : δ[m]? = some z) (hz : Junk z) : Wip δ [j, l, m] := fun i hi s hs => by
  rcases List.mem_cons.mp hi with e | hi
  · rw [e, h] at hs
    cases hs
    exact hx
  · exact wip2 h2 hy h3 hz i hi s hs
section
variable {K : PySem.W.Frag} {w : World} {δ : List Slot} {te ta tb tc : TE} {tr : TA} {tt : TT} {t u : TS} {d : Dn} {Φ : Slot → List Slot → Prop}
theorem turnC1 {j : Nat} {x : PyData} {acc : List PyData} {Pn : List PyData → Prop} (hj : j < δ.length) (h : EvT K tt (δ.set j (.pu x)) fun b δ1 => δ1 = δ.set j (.pu x) ∧ if b = true then EvD K te δ1 fun y δ2 => δ2 = δ.set j (.pu x) ∧ acc.length < 100000 ∧ Pn (acc ++ [y]) else Pn acc) : TurnC K (gName j) tt te [j] δ x acc Pn := by
  have out : ∀ i, i ∉ [j] → (δ.set j (.pu x))[i]? = δ[i]? := fun i hi => List.getElem?_set_ne fun e => hi (by rw [e]; exact List.mem_singleton.mpr rfl)
  refine ⟨[(j, x)], tg_name, fun p hp => by rw [List.mem_singleton.mp hp]; exact ⟨hj, List.mem_singleton.mpr rfl⟩, ?_⟩
  have e : setD (wipeD δ [j]) [(j, x)] = δ.set j (.pu x) := by
    show ((δ.set j .non).set j (.pu x)) = _
    rw [List.set_set]
  rw [e]
  refine h.imp fun b δ1 ⟨e1, q⟩ => ?_
  subst e1
  refine ⟨out, ?_⟩
  cases b with
  | true =>
    rw [if_pos rfl] at q ⊢
    exact fun B H σ F Q S k => q B H σ F Q S fun v y B2 H2 δ2 a b c hd ⟨e2, r⟩ => k v y B2 H2 δ2 a b c hd ⟨by rw [e2]; exact out, r⟩
  | false =>
    rw [if_neg Bool.false_ne_true] at q ⊢
    exact q
/-- a turn that keeps or drops, by what stands there -/
def Turn1C (K : PySem.W.Frag) (tt : TT) (te : TE) (j : Nat) (δ : List Slot) (x : PyData) (p : Bool) (v : PyData) : Prop :=
  EvT K tt (δ.set j (.pu x)) fun b δ2 => δ2 = δ.set j (.pu x) ∧ b = p ∧ (p = true → EvD K te (δ.set j (.pu x)) fun y δ3 => δ3 = δ.set j (.pu x) ∧ y = v)
theorem filt_step {α : Type} {xs : List α} {p : α → Bool} {v : α → PyData} {i : Nat} {a : α} (ha : xs[i]? = some a) : ((xs.take (i + 1)).filter p).map v = if p a = true then ((xs.take i).filter p).map v ++ [v a] else ((xs.take i).filter p).map v := by
  rw [List.take_add_one, ha]
  show (((xs.take i) ++ [a]).filter p).map v = _
  rw [List.filter_append, List.map_append, List.filter_cons]
  by_cases h : p a = true
  · rw [if_pos h, if_pos h]; rfl
  · rw [if_neg h, if_neg h]; exact List.append_nil _
theorem turn_filt {α : Type} {j : Nat} {xs : List α} {g : α → PyData} {p : α → Bool} {v : α → PyData} {i : Nat} {a : α} (hj : j < δ.length) (hl : xs.length ≤ 100000) (ha : xs[i]? = some a) (h : Turn1C K tt te j δ (g a) (p a) (v a)) :
    TurnC K (gName j) tt te [j] δ (g a) (((xs.take i).filter p).map v) (fun acc => acc = ((xs.take (i + 1)).filter p).map v) := by
  refine turnC1 hj (h.imp fun b δ1 ⟨e1, eb, q⟩ => ⟨e1, ?_⟩)
  rw [filt_step ha, eb]
  have hi : i < xs.length := (List.getElem?_eq_some_iff.mp ha).1
  cases hp : p a with
  | true =>
    rw [if_pos rfl, if_pos rfl, e1]
    exact fun B H σ F Q S k => q hp B H σ F Q S fun v' y B2 H2 δ2 a1 b1 c1 hd ⟨e2, ey⟩ => k v' y B2 H2 δ2 a1 b1 c1 hd ⟨e2, by
      rw [List.length_map]
      have := List.length_filter_le p (xs.take i)
      have := List.length_take_le i xs
      omega, by rw [ey]⟩
  | false =>
    rw [if_neg Bool.false_ne_true, if_neg Bool.false_ne_true]
theorem ev_fL {α : Type} {j : Nat} {g : α → PyData} (p : α → Bool) (v : α → PyData) (h : EvS K ta δ fun s δ1 => ∃ xs : List α, den K δ1 s (.list (xs.map g)) ∧ Wip δ1 [j] ∧ j < δ1.length ∧ xs.length ≤ 100000 ∧ (∀ a ∈ xs, Turn1C K tt te j δ1 (g a) (p a) (v a)) ∧ Φ (.ow (RL K ((xs.filter p).map v))) δ1) : EvS K (tLc (iList K ta) (gName j) tt te [j]) δ Φ :=
  ev_lcL (h.imp fun s δ1 ⟨xs, hd, hw, hj, hl, ht, q⟩ => ⟨xs.map g, hd, hw, fun i acc => acc = ((xs.take i).filter p).map v, rfl, fun i y acc hy hacc => by
    subst hacc
    rw [List.getElem?_map] at hy
    cases ha : xs[i]? with
    | none => rw [ha] at hy; cases hy
    | some a =>
      rw [ha] at hy
      cases hy
      exact turn_filt hj hl ha (ht a (List.mem_of_getElem? ha)), fun acc hacc => by
    rw [List.length_map, List.take_length] at hacc
    rw [hacc]
    exact q⟩)
theorem ev_fT {α : Type} {j : Nat} {g : α → PyData} (p : α → Bool) (v : α → PyData) (h : EvS K ta δ fun s δ1 => ∃ xs : List α, s = .pu (.tuple (xs.map g)) ∧ Wip δ1 [j] ∧ j < δ1.length ∧ xs.length ≤ 100000 ∧ (∀ a ∈ xs, Turn1C K tt te j δ1 (g a) (p a) (v a)) ∧ Φ (.ow (RL K ((xs.filter p).map v))) δ1) : EvS K (tLc (iTup K ta) (gName j) tt te [j]) δ Φ :=
  ev_lcT (h.imp fun s δ1 ⟨xs, hd, hw, hj, hl, ht, q⟩ => ⟨xs.map g, hd, hw, fun i acc => acc = ((xs.take i).filter p).map v, rfl, fun i y acc hy hacc => by
    subst hacc
    rw [List.getElem?_map] at hy
    cases ha : xs[i]? with
    | none => rw [ha] at hy; cases hy
    | some a =>
      rw [ha] at hy
      cases hy
      exact turn_filt hj hl ha (ht a (List.mem_of_getElem? ha)), fun acc hacc => by
    rw [List.length_map, List.take_length] at hacc
    rw [hacc]
    exact q⟩)
theorem ev_fR {j : Nat} (p : Nat → Bool) (v : Nat → PyData) (h : EvS K ta δ fun s δ1 => ∃ k : Nat, s = .pu (.int (k : Int)) ∧ Wip δ1 [j] ∧ j < δ1.length ∧ k ≤ 100000 ∧ (∀ a : Nat, a < k → Turn1C K tt te j δ1 (.int (a : Int)) (p a) (v a)) ∧ Φ (.ow (RL K (((List.range k).filter p).map v))) δ1) : EvS K (tLc (iRng1 (tCons ta tNil)) (gName j) tt te [j]) δ Φ :=
  ev_lcR1 (h.imp fun s δ1 ⟨k, hs, hw, hj, hl, ht, q⟩ => ⟨(k : Int), hs, by omega, by omega, hw, fun i acc => acc = (((List.range k).take i).filter p).map v, rfl, fun i acc hi hacc => by
    subst hacc
    have hi' : i < k := by omega
    have ha : (List.range k)[i]? = some i := by rw [List.getElem?_range hi']
    exact turn_filt (g := fun a : Nat => PyData.int (a : Int)) hj (by rw [List.length_range]; exact hl) ha (ht i hi'), fun acc hacc => by
    have e : ((k : Int)).toNat = (List.range k).length := by rw [List.length_range]; omega
    rw [e, List.take_length] at hacc
    rw [hacc]
    exact q⟩)
theorem ev_catS (h : EvS K ta δ fun s1 δ1 => EvS K tb δ1 fun s2 δ2 => ∃ ds es, den K δ2 s1 (.list ds) ∧ den K δ2 s2 (.list es) ∧ ds.length + es.length ≤ 100000 ∧ Φ (.ow (RL K (ds ++ es))) δ2) : EvS K (tOp (Rk.rCatS K) ta tb) δ Φ :=
  ev_opL (h.imp fun s1 δ1 h1 => h1.imp fun s2 δ2 ⟨ds, es, d1, d2, hl, q⟩ => ⟨_, _, _, d1, d2, fun B H u v Q e a b k => by
    obtain ⟨p, xs, rfl, hs, ha⟩ := a.lst e
    obtain ⟨p2, ys, rfl, hs2, ha2⟩ := b.lst e
    exact ⟨p, p2, xs, ys, rfl, rfl, hs, hs2, Evl.sz_of (by rw [dpa_len ha, dpa_len ha2]; exact hl), fun r hr => k r _ hr (dpa_append ha ha2)⟩, q⟩)
theorem ifT {c : Bool} {A B : Prop} (h : c = true) (a : A) : if c = true then A else B := by rw [if_pos h]; exact a
theorem ifF {c : Bool} {A B : Prop} (h : c = false) (b : B) : if c = true then A else B := by rw [if_neg (by rw [h]; exact Bool.false_ne_true)]; exact b
theorem ifB {c : Bool} {A B : Prop} (a : c = true → A) (b : c = false → B) : if c = true then A else B := by
  cases c with
  | true => exact ifT rfl (a rfl)
  | false => exact ifF rfl (b rfl)
end
/-! ### shapes -/
def okD (n : Nat) (d : PyData) : Prop := d.canLay0 = true ∧ d.depth ≤ n
theorem okD.up {n m : Nat} {d : PyData} (h : okD n d) (l : n ≤ m) : okD m d := ⟨h.1, Nat.le_trans h.2 l⟩
theorem okD_int {i : Int} : okD 0 (.int i) := ⟨rfl, Nat.le_refl _⟩
theorem okD_bool {i : Bool} : okD 0 (.bool i) := ⟨rfl, Nat.le_refl _⟩
theorem okD_none : okD 0 .none := ⟨rfl, Nat.le_refl _⟩
theorem okD_all {n : Nat} : ∀ {ds : List PyData}, (∀ x ∈ ds, okD n x) → PyData.canLayAll0 ds = true ∧ PyData.depthAll ds ≤ n
  | [], _ => ⟨rfl, Nat.zero_le _⟩
  | x :: xs, h => by
    obtain ⟨a, b⟩ := okD_all (ds := xs) fun y hy => h y (List.mem_cons_of_mem _ hy)
    obtain ⟨c, e⟩ := h x (List.mem_cons_self ..)
    refine ⟨?_, ?_⟩
    · show (x.canLay0 && PyData.canLayAll0 xs) = true
      rw [c, a]; rfl
    · show max x.depth (PyData.depthAll xs) ≤ n
      exact Nat.max_le.mpr ⟨e, b⟩
theorem okD_list {n : Nat} {ds : List PyData} (h : ∀ x ∈ ds, okD n x) : okD (n + 1) (.list ds) := ⟨(okD_all h).1, Nat.succ_le_succ (okD_all h).2⟩
theorem okD_tuple {n : Nat} {ds : List PyData} (h : ∀ x ∈ ds, okD n x) : okD (n + 1) (.tuple ds) := ⟨(okD_all h).1, Nat.succ_le_succ (okD_all h).2⟩
theorem okD.shaped {n : Nat} {d : PyData} (h : okD n d) (l : n ≤ 64) : SeqAt.shaped d = true := by
  unfold SeqAt.shaped
  rw [h.1, Bool.true_and]
  exact decide_eq_true (Nat.le_trans h.2 l)
theorem okD_ints (ns : List Int) : okD 1 (.list (ns.map PyData.int)) := okD_list fun x hx => by
  obtain ⟨n, _, e⟩ := List.mem_map.mp hx
  rw [← e]
  exact okD_int
theorem shaped_ints (ns : List Int) : SeqAt.shaped (.list (ns.map PyData.int)) = true := (okD_ints ns).shaped (by decide)
theorem eqv_ints : ∀ ns ms : List Int, PyData.eqvAll (ns.map PyData.int) (ms.map PyData.int) = decide (ns = ms)
  | [], [] => by simp [PyData.eqvAll]
  | [], _ :: _ => by simp [PyData.eqvAll]
  | _ :: _, [] => by simp [PyData.eqvAll]
  | n :: ns, m :: ms => by
    have e : PyData.eqvAll ((n :: ns).map PyData.int) ((m :: ms).map PyData.int) = (n == m && PyData.eqvAll (ns.map PyData.int) (ms.map PyData.int)) := by
      simp [PyData.eqvAll, PyData.eqv]
    rw [e, eqv_ints ns ms]
    by_cases h : n = m
    · subst h; by_cases h2 : ns = ms <;> simp [h2]
    · simp [h]
theorem eqvL_ints (ns ms : List Int) : PyData.eqv (.list (ns.map PyData.int)) (.list (ms.map PyData.int)) = decide (ns = ms) := by
  rw [← eqv_ints]
  simp [PyData.eqv]
/-- two rising lists of one content are one -/
theorem rising_unique : ∀ {xs ys : List Int}, xs.Pairwise (· < ·) → ys.Pairwise (· < ·) → (∀ k, k ∈ xs ↔ k ∈ ys) → xs = ys
  | [], [], _, _, _ => rfl
  | [], y :: ys, _, _, h => absurd ((h y).mpr (List.mem_cons_self ..)) (by simp)
  | x :: xs, [], _, _, h => absurd ((h x).mp (List.mem_cons_self ..)) (by simp)
  | x :: xs, y :: ys, hx, hy, h => by
    obtain ⟨h1, h2⟩ := List.pairwise_cons.mp hx
    obtain ⟨g1, g2⟩ := List.pairwise_cons.mp hy
    have e : x = y := by
      rcases List.mem_cons.mp ((h x).mp (List.mem_cons_self ..)) with z | z
      · exact z
      · rcases List.mem_cons.mp ((h y).mpr (List.mem_cons_self ..)) with z2 | z2
        · exact z2.symm
        · have a := g1 x z
          have b := h1 y z2
          omega
    subst e
    rw [rising_unique h2 g2 fun k => ⟨fun hk => ?_, fun hk => ?_⟩]
    · rcases List.mem_cons.mp ((h k).mp (List.mem_cons_of_mem _ hk)) with z | z
      · have := h1 k hk; omega
      · exact z
    · rcases List.mem_cons.mp ((h k).mpr (List.mem_cons_of_mem _ hk)) with z | z
      · have := g1 k hk; omega
      · exact z
end Dl

namespace Dl
open PySem PySem.Spec PyProof.Rows L2
open Evl (Ex)
/-- the draws at d, told outright -/
def RDl (d : Addr) (xs : List Int) : Res where
  P v B H M := v = .ref d ∧ H d = some (.lst (xs.map V.int)) ∧ ∀ a, M a ↔ a = d
  loc := by
    rintro v B H B' H' M ⟨rfl, hd, hM⟩ e k
    exact ⟨rfl, by rw [k d ((hM d).mpr rfl)]; exact hd, hM⟩
  live := by
    rintro v B H M ⟨rfl, hd, hM⟩ a ha
    rw [(hM a).mp ha, hd]
    exact fun z => nomatch z
section
variable {K : PySem.W.Frag} {w : World} {δ : List Slot} {te ta tb tc : TE} {tr : TA} {tt : TT} {t u : TS} {d : Dn} {Φ : Slot → List Slot → Prop} {B H : Hp} {σ : L2.St} {F : Addr → Prop}
theorem Sd.as {j : Nat} {R R' : Res} (S : Sd K B H σ δ F) (hj : δ[j]? = some (.ow R)) (h : ∀ v B H M, R.P v B H M → R'.P v B H M) : Sd K B H σ (δ.set j (.ow R')) F := by
  obtain ⟨v, M, ev, hP, hb, hF, op⟩ := S.opn hj
  have q := op B H (some v) (.ow R') M (Ex.refl _) S.bh (fun _ _ h _ => h) (fun _ _ h => .inl h) ⟨_, rfl, h v B H M hP, hb⟩ (fun a z => .inl z)
  rwa [set_self ev] at q
theorem ev_intB2 (h : EvS K ta δ fun s δ1 => ∃ b : Bool, s = .pu (.bool b) ∧ Φ (.pu (.int (if b then 1 else 0))) δ1) : EvS K (tCB (fun xs H Q => (∃ i, xs = [V.int i] ∧ Q (V.int i) H) ∨ ∃ k, xs = [V.bl k] ∧ Q (V.int (if k = true then 1 else 0)) H) (tCons ta tNil)) δ Φ := ev_intB h
def pOff (ds : List PyData) : Prop := ∃ k : Int, ds = [.int k] ∧ 0 < k ∧ k < 1073741824
def tOff (ds : List PyData) (r : Rt) : Prop := ∀ k : Int, ds = [.int k] → ∃ x : Nat, r = .d (.int (x : Int)) ∧ (x : Int) < k
/-- a draw -/
theorem ev_off {i : Nat} {a : Addr} (h0 : δ[i]? = some (.ow (RDi a))) (h : EvS K te δ fun s δ1 => δ1[i]? = some (.ow (RDi a)) ∧ ∃ k : Int, s = .pu (.int k) ∧ 0 < k ∧ k < 1073741824 ∧ ∀ x : Nat, (x : Int) < k → Φ (.pu (.int (x : Int))) δ1) : EvS K (tCall (spDi K 1 pOff tOff) [] E0 (tCons (tVar i) (tCons te tNil))) δ Φ :=
  ev_callD h0 (eds_cons (h.imp fun s δ1 ⟨hi, k, es, h1, h2, q⟩ => by
    subst es
    exact ⟨_, frz_pu, eds_nil ⟨hi, rfl, ⟨k, rfl, h1, h2⟩, fun r hr => by
      obtain ⟨x, rfl, hx⟩ := hr k rfl
      exact q x hx⟩⟩))
theorem ev_ixB (h : EvS K ta δ fun s1 δ1 => EvS K tb δ1 fun s2 δ2 => ∃ ds i d, (den K δ2 s1 (.list ds) ∨ s1 = .pu (.tuple ds)) ∧ s2 = .pu (.int i) ∧ atI ds i = some d ∧ Φ (.pu d) δ2) : EvS K (tOp (fun x y H Q => rIxL K x y H Q ∨ rIxT K x y H Q) ta tb) δ Φ :=
  ev_opP (h.imp fun s1 δ1 h1 => h1.imp fun s2 δ2 ⟨ds, i, d, e1, e2, hi, q⟩ => by
    rcases e1 with e1 | e1
    · exact ⟨.list ds, .int i, d, e1, .inl e2, fun B H u v Q e d1 d2 k => by
        obtain ⟨p, xs, rfl, hs, ha⟩ := d1.lst e
        obtain ⟨w, hw, hd⟩ := atI_dpa ha hi
        exact .inl ⟨p, xs, i, w, rfl, dr_int d2, hs, hw, k w B H (Gr.refl e) hd⟩, q⟩
    · exact ⟨.tuple ds, .int i, d, .inl e1, .inl e2, fun B H u v Q e d1 d2 k => by
        obtain ⟨p, xs, rfl, hs, ha⟩ := d1.tup e
        obtain ⟨w, hw, hd⟩ := atI_dpa ha hi
        exact .inr ⟨p, xs, i, w, rfl, dr_int d2, hs, hw, k w B H (Gr.refl e) hd⟩, q⟩)
theorem ixN_nat {n k : Nat} (h : k < n) : ixN n (k : Int) = some k := by
  unfold ixN
  rw [if_pos (by omega), if_pos (by omega)]
  simp
theorem xs_mid (I : List Slot → Prop) (h : ExS K t { d with nx := I } δ) (h2 : ∀ δ', I δ' → d.nx δ') : ExS K t d δ := fun B H σ F D S L =>
  h B H σ F D S ⟨fun B2 H2 σ2 δ2 e f S2 p => L.nx B2 H2 σ2 δ2 e f S2 (h2 δ2 p), L.bk, L.ct, L.rt⟩
theorem xs_as {j : Nat} {R R' : Res} (hj : δ[j]? = some (.ow R)) (h : ∀ v B H M, R.P v B H M → R'.P v B H M) (hx : ExS K t d (δ.set j (.ow R'))) : ExS K t d δ := fun B H σ F D S L => hx B H σ F D (S.as hj h) L
theorem xs_dopen {j : Nat} {a : Addr} (hj : δ[j]? = some (.ow (RDi a))) (h : ∀ xs, DiceOk xs → ExS K t d (δ.set j (.ow (RDl a xs)))) : ExS K t d δ := fun B H σ F D S L => by
  obtain ⟨v, M, ev, ⟨rfl, ⟨xs, ok, hp⟩, hM⟩, hb, hF, op⟩ := S.opn hj
  have q := op B H (some (.ref a)) (.ow (RDl a xs)) M (Ex.refl _) S.bh (fun _ _ h _ => h) (fun _ _ h => .inl h) ⟨_, rfl, ⟨rfl, hp, hM⟩, hb⟩ (fun a z => .inl z)
  rw [set_self ev] at q
  exact h xs ok B H σ F D q L
theorem xs_dclose {j : Nat} {a : Addr} {xs : List Int} (hj : δ[j]? = some (.ow (RDl a xs))) (ok : DiceOk xs) (h : ExS K t d (δ.set j (.ow (RDi a)))) : ExS K t d δ :=
  xs_as (R := RDl a xs) (R' := RDi a) hj (fun v B H M ⟨e, hp, hM⟩ => ⟨e, ⟨xs, ok, hp⟩, hM⟩) h
theorem ev_dclose {j : Nat} {a : Addr} {xs : List Int} (hj : δ[j]? = some (.ow (RDl a xs))) (ok : DiceOk xs) (h : EvS K te (δ.set j (.ow (RDi a))) Φ) : EvS K te δ Φ := fun B H σ F Q S =>
  h B H σ F Q (S.as (R := RDl a xs) (R' := RDi a) hj (fun v B H M ⟨e, hp, hM⟩ => ⟨e, ⟨xs, ok, hp⟩, hM⟩))
theorem dl_at {j : Nat} {a : Addr} {xs : List Int} (S : Sd K B H σ δ F) (hj : δ[j]? = some (.ow (RDl a xs))) : σ[j]? = some (some (.ref a)) ∧ H a = some (.lst (xs.map V.int)) := by
  obtain ⟨v, M, ev, ⟨rfl, hp, hM⟩, _⟩ := S.opn hj
  exact ⟨ev, hp⟩
theorem atI_map {xs : List Int} {i x : Int} (h : atI xs i = some x) : atI (xs.map V.int) i = some (.int x) := by
  unfold atI at h ⊢
  rw [List.length_map]
  cases q : ixN xs.length i with
  | none => rw [q] at h; cases h
  | some k =>
    rw [q] at h
    show (xs.map V.int)[k]? = _
    rw [List.getElem?_map, show xs[k]? = some x from h]
    rfl
theorem ev_Dix {j : Nat} {a : Addr} {xs : List Int} {i x : Int} (hj : δ[j]? = some (.ow (RDl a xs))) (hx : atI xs i = some x) (q : Φ (.pu (.int x)) δ) : EvS K (tOp (rIxL K) (tVar j) (tC (.int i))) δ Φ := fun B H σ F Q S k => by
  obtain ⟨ev, hp⟩ := dl_at S hj
  exact ⟨_, ev, a, _, i, _, rfl, rfl, SqL.of hp, atI_map hx, k _ (fun _ => False) (.pu (.int x)) B H δ (Ex.refl _) (fun _ _ => rfl) (S.less fun a z => z.elim id False.elim) ⟨.int x, fun _ z => z⟩ (fun _ z => z.elim) q⟩
theorem ev_Dlen {j : Nat} {a : Addr} {xs : List Int} (hj : δ[j]? = some (.ow (RDl a xs))) (q : Φ (.pu (.int (xs.length : Int))) δ) : EvS K (tCB (fun xs H Q => ∃ p ys, xs = [.ref p] ∧ (SqL K H p ys ∨ SqT K H p ys) ∧ Q (.int ys.length) H) (tCons (tVar j) tNil)) δ Φ := fun B H σ F Q S k => by
  obtain ⟨ev, hp⟩ := dl_at S hj
  refine ⟨_, ev, a, _, rfl, .inl (SqL.of hp), ?_⟩
  rw [List.length_map]
  exact k _ (fun _ => False) (.pu (.int _)) B H δ (Ex.refl _) (fun _ _ => rfl) (S.less fun a z => z.elim id False.elim) ⟨.int _, fun _ z => z⟩ (fun _ z => z.elim) q
theorem Sd.dl {j : Nat} {a : Addr} {xs : List Int} (S : Sd K B H σ δ F) (hj : δ[j]? = some (.ow (RDl a xs))) (ys : List Int) : Sd K B (upd H a (.lst (ys.map V.int))) σ (δ.set j (.ow (RDl a ys))) F ∧ ∀ b, F b → upd H a (.lst (ys.map V.int)) b = H b := by
  obtain ⟨v, M, ev, ⟨rfl, hp, hM⟩, hb, hF, op⟩ := S.opn hj
  refine ⟨?_, fun b z => upd_ne fun e => hF b ((hM b).mpr e) z⟩
  have q2 := op B (upd H a (.lst (ys.map V.int))) (some (.ref a)) (.ow (RDl a ys)) M (Ex.refl _) (fun c u ha' => by
      rw [upd_ne (fun e => by rw [e, hb a ((hM a).mpr rfl)] at ha'; cases ha')]
      exact S.bh c u ha') (fun c o ha' nm => by rw [upd_ne (fun e => nm ((hM c).mpr e))]; exact ha') (fun _ _ z => .inl z)
      ⟨_, rfl, ⟨rfl, upd_same, hM⟩, hb⟩ (fun a z => .inl z)
  rwa [set_self ev] at q2
theorem er_map : ∀ (xs : List Int) (i : Nat), (xs.map V.int).eraseIdx i = (xs.eraseIdx i).map V.int
  | [], _ => rfl
  | _ :: _, 0 => rfl
  | x :: r, i + 1 => by
    show V.int x :: (r.map V.int).eraseIdx i = _
    rw [er_map r i]
    rfl
theorem ev_Dpop {j : Nat} {a : Addr} {xs : List Int} {i : Nat} {x : Int} (hj : δ[j]? = some (.ow (RDl a xs))) (hx : xs[i]? = some x) (hl : xs.length ≤ 100000) (q : Φ (.pu (.int x)) (δ.set j (.ow (RDl a (xs.eraseIdx i))))) : EvS K (tBM K "list" rPopAt (tVar j) (tCons (tC (.int (i : Int))) tNil)) δ Φ := fun B H σ F Q S k => by
  obtain ⟨ev, hp⟩ := dl_at S hj
  obtain ⟨S2, f2⟩ := S.dl hj (xs.eraseIdx i)
  have hil : i < xs.length := (List.getElem?_eq_some_iff.mp hx).1
  refine ⟨_, ev, .inl ⟨rfl, _, SqL.of hp⟩, a, _, (i : Int), i, .int x, rfl, rfl, hp, by omega, by omega, ?_, by rw [List.getElem?_map, hx]; rfl, ?_⟩
  · unfold seqIndex?
    have h1 : ¬ ((i : Int) < 0) := by omega
    simp [h1, hil]
  · rw [show (xs.map V.int).eraseIdx i = (xs.eraseIdx i).map V.int from er_map xs i]
    exact k _ (fun _ => False) (.pu (.int x)) B _ _ (Ex.refl _) f2 (S2.less fun a z => z.elim id False.elim) ⟨.int x, fun _ z => z⟩ (fun _ z => z.elim) q
theorem xs_Dset {j : Nat} {i : Int} (h : EvS K te δ fun s δ1 => ∃ (a : Addr) (xs : List Int) (x : Int) (k : Nat), s = .pu (.int x) ∧ δ1[j]? = some (.ow (RDl a xs)) ∧ ixN xs.length i = some k ∧ d.nx (δ1.set j (.ow (RDl a (xs.set k x))))) : ExS K (tAsg te (gSub (tVar j) (tC (.int i)) rSetL)) d δ := fun B H σ F D S L =>
  h B H σ F _ S fun v M s B2 H2 δ1 e f S2 w n ⟨a, xs, x, k, es, hj, hk, q⟩ => by
    subst es
    have S2' : Sd K B2 H2 σ δ1 F := S2.less fun a z => .inl z
    obtain ⟨ev, hp⟩ := dl_at S2' hj
    obtain ⟨S3, f3⟩ := S2'.dl hj (xs.set k x)
    refine ⟨_, ev, a, _, i, k, rfl, rfl, hp, by rw [List.length_map]; exact hk, ?_⟩
    rw [dp_int_inv w.1, show (xs.map V.int).set k (V.int x) = (xs.set k x).map V.int from (by rw [List.map_set])]
    exact L.nx B2 _ σ _ e (fun b z => (f3 b z).trans (f b z)) S3 q
end
/-! ### the law's own def -/
section
variable {P : Program} {w : World} {K : PySem.W.Frag} {mg : Str → Option Value} {base : Heap} {x : Str} {st : Stmt} {N ps : List Str} {k n : Nat} {f : Addr} {fd : FuncData}
theorem fnP {pre : List PyData → Prop} {T : List PyData → Rt → Prop} (F : Fun K x x st f fd) (S : FnScope N ps (defScope st)) (hn : ps.length = n)
    (hbody : ∀ (cdv : Value) (A : Around) (outer : List Env) (s : Shared) (H : Hp) (E : XK), Room k (A.deeper (envOfC x (defScope st) s.heap.objs.size f cdv)) →
      ∃ t, PSs (cxOf CX0 P w K mg base N x (defScope st) f cdv A outer s H E).nox (defBody st) t ∧ ∀ ds, ds.length = n → pre ds → ExS K t { nx := fun _ => T ds (.d .none), rt := RtS K (T ds) } (ds.map Slot.pu ++ List.replicate (N.length - ds.length) Slot.non)) : FnOk P w K mg base CX0 (k + 1) f fd ps (spP K n pre T) :=
  F.ok S (fun vs H Q E h => by rw [spP_len h, hn]) fun cdv A outer s H vs Q E hr h => by
    obtain ⟨t, ht, hx⟩ := hbody cdv A outer s H E hr
    exact ⟨t, ht, body_P h hx⟩
def pLaw (ds : List PyData) : Prop := ∃ ns : List Int, ds = [.list (ns.map PyData.int)] ∧ ns.length ≤ 63
def tLaw (_ : List PyData) (r : Rt) : Prop := r = .d (.bool true)
def spLaw (K : PySem.W.Frag) : Sp := fun vs H Q _ => ∃ (a : Addr) (ns : List Int), vs = [.ref a] ∧ SqL K H a (ns.map V.int) ∧ ns.length ≤ 63 ∧ ∀ H', Q (.bl true) H'
theorem fnLaw (h : FnOk P w K mg base CX0 k f fd ps (spP K 1 pLaw tLaw)) : FnOk P w K mg base CX0 k f fd ps (spLaw K) :=
  h.imp fun vs H Q E ⟨a, ns, e, hs, hl, q⟩ => ⟨H, [.list (ns.map PyData.int)], Ex.refl _, by rw [e]; exact .cons (.lst hs (dpa_ints ns)) .nil, rfl, ⟨ns, rfl, hl⟩, fun v B2 H2 r g ro hr => by
    cases (show r = .d (.bool true) from hr)
    rw [dp_bl_inv ro]
    exact q H2⟩
theorem df_of (F : Fun K x x st f fd) (hm : mg x = some (.ref f)) (b : Binds K fd ps []) : Df K mg x st ps := ⟨f, fd, F, hm, b⟩
/-- a tuple that the top has laid -/
theorem tup_K {b : Addr} {od : Option Addr} {its : Array Value} {n : Nat} {sl : Array (Option Value)} {xs : List V} {ds : List PyData} (h : K.lookup b = some ⟨.type "tuple", od, .seq its n, sl⟩) (hs : its.size ≤ sizeLine) (hv : Vals xs its.toList) (hd : ∀ B : Hp, DpAll K B xs ds) : ∀ B : Hp, Dp K B (.ref b) (.tuple ds) :=
  fun B => .tup (.inr ⟨_, its, n, h, rfl, rfl, hs, hv⟩) (hd B)
/-- a constant of the module -/
structure Cst (K : PySem.W.Frag) (mg : Str → Option Value) (x : Str) (d : PyData) : Prop where
  ex : ∃ v u, mg x = some u ∧ RelV v u ∧ ∀ B : Hp, Dp K B v d
theorem cst_int {i : Int} {t : Tok} (h : mg x = some (.int i t)) : Cst K mg x (.int i) := ⟨.int i, _, h, ⟨t, rfl⟩, fun _ => .int i⟩
theorem cst_str {i : Str} {t : Tok} (h : mg x = some (.str i t)) : Cst K mg x (.str i) := ⟨.str i, _, h, ⟨t, rfl⟩, fun _ => .str i⟩
theorem cst_tup {b : Addr} {ds : List PyData} (h : mg x = some (.ref b)) (hd : ∀ B : Hp, Dp K B (.ref b) (.tuple ds)) : Cst K mg x (.tuple ds) := ⟨.ref b, _, h, rfl, hd⟩
end
end Dl

namespace Kk
open PySem PySem.Spec PyProof.Rows L2
theorem pe_join {X : Cx} {K : PySem.W.Frag} {o e : Expr} {to te : TE} {apos pos : Pos} (ho : PE X o to) (he : PE X e te) (h : X.K = K := by rfl) (hs : starEach [e] X.env = [(false, eval e X.env)] := by rfl) (hbase : attributeBase o "join" X.env (eval o X.env) = eval o X.env := by rfl) (hline : (apos.endLine == pos.line) = true := by rfl) :
    PE X (.Call (.Attribute o "join" apos) [e] [] pos) (tM1 (fun x xs H Q => ∃ a p, ∃ ys : List Str, x = .str a ∧ xs = [.ref p] ∧ (SqL K H p (ys.map V.str) ∨ SqT K H p (ys.map V.str)) ∧
      (ys.map (·.length)).sum + ys.length * a.length ≤ 16777216 ∧ Q (.str (Txt.join a ys)) H) to te) := h ▸ L2.pe_join ho he hs hbase hline
end Kk
namespace Dl
open PySem PySem.Spec PyProof.Rows L2
open Evl (Ex)
section
variable {K : PySem.W.Frag} {w : World} {δ : List Slot} {te ta tb tc : TE} {tr : TA} {tt : TT} {t u : TS} {d : Dn} {Φ : Slot → List Slot → Prop}
theorem dr_strs {B H : Hp} {v : V} {ys : List Str} (e : Ex B H) (h : Dr K B H v (.list (ys.map PyData.str)) ∨ Dr K B H v (.tuple (ys.map PyData.str))) : ∃ p, v = .ref p ∧ (SqL K H p (ys.map V.str) ∨ SqT K H p (ys.map V.str)) := by
  obtain ⟨p, xs, rfl, hs, ha⟩ := dr_seq e h
  have ex := dpa_strs_inv ha
  subst ex
  exact ⟨p, rfl, hs⟩
theorem ev_joinS {a : Str} (h : EvS K te δ fun s δ1 => ∃ ys : List Str, (den K δ1 s (.list (ys.map PyData.str)) ∨ den K δ1 s (.tuple (ys.map PyData.str))) ∧ (ys.map (·.length)).sum + ys.length * a.length ≤ 16777216 ∧ Φ (.pu (.str (Txt.join a ys))) δ1) :
    EvS K (tM1 (fun x xs H Q => ∃ a p, ∃ ys : List Str, x = .str a ∧ xs = [.ref p] ∧ (SqL K H p (ys.map V.str) ∨ SqT K H p (ys.map V.str)) ∧
      (ys.map (·.length)).sum + ys.length * a.length ≤ 16777216 ∧ Q (.str (Txt.join a ys)) H) (tC (.str a)) te) δ Φ := fun B H σ F Q S k =>
  ⟨⟨a, rfl⟩, ev_unP (ta := te) (r := fun y H Q => ∃ a' p, ∃ ys : List Str, V.str a = .str a' ∧ [y] = [.ref p] ∧ (SqL K H p (ys.map V.str) ∨ SqT K H p (ys.map V.str)) ∧ (ys.map (·.length)).sum + ys.length * a'.length ≤ 16777216 ∧ Q (.str (Txt.join a' ys)) H)
    (h.imp fun s δ1 ⟨ys, hd, hl, q⟩ => by
      obtain ⟨x, hx, kx⟩ := den2 (B := fun _ => none) (H := fun _ => none) (v := .non) hd
      exact ⟨x, .str (Txt.join a ys), hx, unP_flat rfl fun B H u Q e dd kk => by
        obtain ⟨p, rfl, hs⟩ := dr_strs e (kx B H u dd)
        exact ⟨a, p, ys, rfl, rfl, hs, hl, kk⟩, q⟩) B H σ F Q S k⟩
theorem dr_strV {B H : Hp} {v : V} {x : Str} (h : Dr K B H v (.str x)) : v = .str x := dr_str h
theorem ev_splitS {b : Str} (h : EvS K ta δ fun s δ1 => ∃ a : Str, s = .pu (.str a) ∧ (b.length == 0) = false ∧ a.length + 2 ≤ sizeLine ∧ Φ (.ow (RL K ((Txt.split a b).map PyData.str))) δ1) :
    EvS K (tM1 (fun x xs H Q => ∃ a b, x = .str a ∧ xs = [.str b] ∧ (b.length == 0) = false ∧ a.length + 2 ≤ sizeLine ∧ rNewStrs (Txt.split a b) H Q) ta (tC (.str b))) δ Φ :=
  ev_unL (r := fun x H Q => (∃ a, x = .str a) ∧ ∃ a b', x = .str a ∧ [V.str b] = [.str b'] ∧ (b'.length == 0) = false ∧ a.length + 2 ≤ sizeLine ∧ rNewStrs (Txt.split a b') H Q) (h.imp fun s δ1 ⟨a, hs, hb, hl, q⟩ => ⟨.str a, _, .inl hs, fun B H u Q e dd kk => by
    rw [dr_str dd]
    exact ⟨⟨a, rfl⟩, a, b, rfl, rfl, hb, hl, fun p hp => kk p _ hp (dpa_strs _)⟩, q⟩)
theorem ev_ixS (h : EvS K ta δ fun s1 δ1 => EvS K tb δ1 fun s2 δ2 => ∃ (z : Str) (i : Int) (c : Nat), s1 = .pu (.str z) ∧ s2 = .pu (.int i) ∧ z.length ≤ sizeLine ∧ atI z.cps.toList i = some c ∧ Φ (.pu (.str ⟨#[c]⟩)) δ2) : EvS K (tOp rIxS ta tb) δ Φ :=
  ev_opP (h.imp fun s1 δ1 h1 => h1.imp fun s2 δ2 ⟨z, i, c, e1, e2, hl, hc, q⟩ => ⟨.str z, .int i, .str ⟨#[c]⟩, .inl e1, .inl e2, opP_flat rfl fun B H u v Q e d1 d2 k => ⟨z, i, c, dr_str d1, dr_int d2, hl, hc, k⟩, q⟩)
theorem ev_inSg (h : EvS K ta δ fun s1 δ1 => EvS K tb δ1 fun s2 δ2 => ∃ (c : Nat) (z : Str), s1 = .pu (.str ⟨#[c]⟩) ∧ s2 = .pu (.str z) ∧ Φ (.pu (.bool (decide (c ∈ z.cps.toList)))) δ2) : EvS K (tOp (fun x y H Q => ∃ (c : Nat) (z : Str), x = .str ⟨#[c]⟩ ∧ y = .str z ∧ Q (.bl (decide (c ∈ z.cps.toList))) H) ta tb) δ Φ :=
  ev_opP (h.imp fun s1 δ1 h1 => h1.imp fun s2 δ2 ⟨c, z, e1, e2, q⟩ => ⟨.str ⟨#[c]⟩, .str z, .bool _, .inl e1, .inl e2, opP_flat rfl fun B H u v Q e d1 d2 k => ⟨c, z, dr_str d1, dr_str d2, k⟩, q⟩)
theorem ev_notInSg (h : EvS K ta δ fun s1 δ1 => EvS K tb δ1 fun s2 δ2 => ∃ (c : Nat) (z : Str), s1 = .pu (.str ⟨#[c]⟩) ∧ s2 = .pu (.str z) ∧ Φ (.pu (.bool (!decide (c ∈ z.cps.toList)))) δ2) : EvS K (tOp (fun x y H Q => ∃ (c : Nat) (z : Str), x = .str ⟨#[c]⟩ ∧ y = .str z ∧ Q (.bl (!decide (c ∈ z.cps.toList))) H) ta tb) δ Φ :=
  ev_opP (h.imp fun s1 δ1 h1 => h1.imp fun s2 δ2 ⟨c, z, e1, e2, q⟩ => ⟨.str ⟨#[c]⟩, .str z, .bool _, .inl e1, .inl e2, opP_flat rfl fun B H u v Q e d1 d2 k => ⟨c, z, dr_str d1, dr_str d2, k⟩, q⟩)
theorem ev_intS (h : EvS K ta δ fun s δ1 => ∃ (a : Str) (n : Int), s = .pu (.str a) ∧ PySem.intText? a = some n ∧ a.length ≤ 640 ∧ Φ (.pu (.int n)) δ1) : EvS K (tCB (fun xs H Q => ∃ a n, xs = [.str a] ∧ PySem.intText? a = some n ∧ a.length ≤ 640 ∧ Q (.int n) H) (tCons ta tNil)) δ Φ :=
  ev_cb1P (h.imp fun s δ1 ⟨a, n, h1, h2, h3, q⟩ => ⟨.str a, .int n, .inl h1, unP_flat rfl fun B H u Q e dd kk => ⟨a, n, by rw [dr_str dd], h2, h3, kk⟩, q⟩)
/-- over a text's signs -/
theorem ev_lcS {g : TG} {vs : List Nat} (h : EvS K ta δ fun s δ1 => ∃ z : Str, s = .pu (.str z) ∧ Wip δ1 vs ∧ ∃ Pv : Nat → List PyData → Prop, Pv 0 [] ∧ (∀ (i : Nat) (c : Nat) acc, z.cps.toList[i]? = some c → Pv i acc → TurnC K g tt te vs δ1 (.str ⟨#[c]⟩) acc (Pv (i + 1))) ∧ ∀ acc, Pv z.cps.toList.length acc → Φ (.ow (RL K acc)) δ1) : EvS K (tLc (iStr ta) g tt te vs) δ Φ := fun B H σ F Q S kk =>
  h B H σ F _ S fun v M s B2 H2 δ1 e f S2 w n ⟨z, es, hw, Pv, h0, hs, hd⟩ => by
    subst es
    have S2' : Sd K B2 H2 σ δ1 F := S2.less fun a z => .inl z
    refine ⟨z, dp_str_inv w.1, ?_⟩
    refine lc_core' (n := z.cps.toList.length) (item := fun i => .str ⟨#[z.cps.toList.getD i 0]⟩) Pv S2' (F0 := F) (fun a z => z) hw (fun i hi B' H' e' f' S' => ?_) (fun B' H' e' f' S' => ?_) h0 (fun i acc hi q => hs i _ acc (by rw [List.getD_eq_getElem?_getD, List.getElem?_eq_getElem hi]; rfl) q) (fun acc v M B3 H3 p e3 f3 S3 hP hM => kk v M (.ow (RL K acc)) B3 H3 δ1 (e.trans e3) (fun a z => (f3 a z).trans (f a z)) S3 hP hM (hd acc p))
    · have hi' : i < z.cps.size := by simpa using hi
      refine ⟨hi', fun y H3 hy => ?_⟩
      obtain ⟨e1, c, hc, e2⟩ := hy
      subst e1 e2
      refine ⟨B', Gr.refl S'.bh, ?_⟩
      have e3 : z.cps.toList.getD i 0 = c := by
        rw [List.getD_eq_getElem?_getD, ← Array.getElem?_toList] at *
        rw [hc]
        rfl
      rw [e3]
      exact .str _
    · show z.cps.size ≤ z.cps.toList.length
      simp
theorem ev_fS {j : Nat} (p : Nat → Bool) (v : Nat → PyData) (h : EvS K ta δ fun s δ1 => ∃ z : Str, s = .pu (.str z) ∧ Wip δ1 [j] ∧ j < δ1.length ∧ z.cps.toList.length ≤ 100000 ∧ (∀ a ∈ z.cps.toList, Turn1C K tt te j δ1 (.str ⟨#[a]⟩) (p a) (v a)) ∧ Φ (.ow (RL K ((z.cps.toList.filter p).map v))) δ1) : EvS K (tLc (iStr ta) (gName j) tt te [j]) δ Φ :=
  ev_lcS (h.imp fun s δ1 ⟨z, hd, hw, hj, hl, ht, q⟩ => ⟨z, hd, hw, fun i acc => acc = ((z.cps.toList.take i).filter p).map v, rfl, fun i c acc hc hacc => by
    subst hacc
    exact turn_filt (g := fun c : Nat => PyData.str ⟨#[c]⟩) hj hl hc (ht c (List.mem_of_getElem? hc)), fun acc hacc => by
    have hacc2 : acc = ((z.cps.toList.take z.cps.toList.length).filter p).map v := hacc
    rw [List.take_length] at hacc2
    rw [hacc2]
    exact q⟩)
theorem memD_none (ns : List Int) : memD .none (ns.map PyData.int) = false := by
  induction ns with
  | nil => rfl
  | cons n r ih => first | exact ih | (unfold memD at ih ⊢; simpa using ih)
end
end Dl

set_option simprocs false

namespace Kr
open PySem PySem.Spec PyProof.Rows L2
def topS (i : Nat) : Stmt := PySem.Challenge.pw_keeprunning_k14_written_and_read.main.body.getD i (.Pass ⟨0, 0, 0, 0⟩)
abbrev s_is_between : Stmt := topS 8
theorem sc_is_between : FnScope ["part", "low", "high"] ["part", "low", "high"] (defScope s_is_between) := ⟨rfl, rfl, rfl, by decide +kernel, rfl, by decide +kernel, by decide +kernel⟩
abbrev s_is_service : Stmt := topS 9
theorem sc_is_service : FnScope ["service", "many", "number", "wants", "one", "k"] ["service", "many", "number"] (defScope s_is_service) := ⟨rfl, rfl, rfl, by decide +kernel, rfl, by decide +kernel, by decide +kernel⟩
abbrev s_ring_from : Stmt := topS 10
theorem sc_ring_from : FnScope ["plan", "begin", "level", "met", "further", "row", "one"] ["plan", "begin"] (defScope s_ring_from) := ⟨rfl, rfl, rfl, by decide +kernel, rfl, by decide +kernel, by decide +kernel⟩
abbrev s_first_ring : Stmt := topS 11
theorem sc_first_ring : FnScope ["plan", "best", "number", "row"] ["plan"] (defScope s_first_ring) := ⟨rfl, rfl, rfl, by decide +kernel, rfl, by decide +kernel, by decide +kernel⟩
abbrev s_need_services : Stmt := topS 12
theorem sc_need_services : FnScope ["plan", "number", "service"] ["plan"] (defScope s_need_services) := ⟨rfl, rfl, rfl, by decide +kernel, rfl, by decide +kernel, by decide +kernel⟩
abbrev s_need_plan : Stmt := topS 13
theorem sc_need_plan : FnScope ["plan", "ring"] ["plan"] (defScope s_need_plan) := ⟨rfl, rfl, rfl, by decide +kernel, rfl, by decide +kernel, by decide +kernel⟩
abbrev s_written : Stmt := topS 17
theorem sc_written : FnScope ["plan", "rows", "service", "wants", "one", "part"] ["plan"] (defScope s_written) := ⟨rfl, rfl, rfl, by decide +kernel, rfl, by decide +kernel, by decide +kernel⟩
abbrev s_number_of : Stmt := topS 18
theorem sc_number_of : FnScope ["word", "sign"] ["word"] (defScope s_number_of) := ⟨rfl, rfl, rfl, by decide +kernel, rfl, by decide +kernel, by decide +kernel⟩
abbrev s_numbers_of : Stmt := topS 19
theorem sc_numbers_of : FnScope ["words", "found", "word"] ["words"] (defScope s_numbers_of) := ⟨rfl, rfl, rfl, by decide +kernel, rfl, by decide +kernel, by decide +kernel⟩
abbrev s_row_of : Stmt := topS 20
theorem sc_row_of : FnScope ["line", "words", "wants", "rest"] ["line"] (defScope s_row_of) := ⟨rfl, rfl, rfl, by decide +kernel, rfl, by decide +kernel, by decide +kernel⟩
abbrev s_read : Stmt := topS 21
theorem sc_read : FnScope ["text", "found", "number", "line", "service"] ["text"] (defScope s_read) := ⟨rfl, rfl, rfl, by decide +kernel, rfl, by decide +kernel, by decide +kernel⟩
abbrev s__law_dice : Stmt := topS 23
theorem sc__law_dice : FnScope ["_law_script", "_law_k", "_law_found", "_law_cell"] ["_law_script", "_law_k"] (defScope s__law_dice) := ⟨rfl, rfl, rfl, by decide +kernel, rfl, by decide +kernel, by decide +kernel⟩
abbrev s__law_off : Stmt := topS 24
theorem sc__law_off : FnScope ["_law_d", "_law_most", "_law_found"] ["_law_d", "_law_most"] (defScope s__law_off) := ⟨rfl, rfl, rfl, by decide +kernel, rfl, by decide +kernel, by decide +kernel⟩
abbrev s__law_alike : Stmt := topS 25
theorem sc__law_alike : FnScope ["_law_found", "_law_due", "_law_k"] ["_law_found", "_law_due"] (defScope s__law_alike) := ⟨rfl, rfl, rfl, by decide +kernel, rfl, by decide +kernel, by decide +kernel⟩
abbrev s__law_mixed : Stmt := topS 26
theorem sc__law_mixed : FnScope ["_law_d", "_law_row", "_law_left", "_law_found"] ["_law_d", "_law_row"] (defScope s__law_mixed) := ⟨rfl, rfl, rfl, by decide +kernel, rfl, by decide +kernel, by decide +kernel⟩
abbrev s__law_times : Stmt := topS 27
theorem sc__law_times : FnScope ["_law_d", "_law_few", "_law_tries", "_law_stays"] ["_law_d"] (defScope s__law_times) := ⟨rfl, rfl, rfl, by decide +kernel, rfl, by decide +kernel, by decide +kernel⟩
abbrev s__law_plan : Stmt := topS 28
theorem sc__law_plan : FnScope ["_law_d", "_law_limit", "_law_many", "_law_order_of", "_law_kind", "_law_often", "_law_wants", "_law_place", "_law_some", "_law_k", "_law_number"] ["_law_d", "_law_limit"] (defScope s__law_plan) := ⟨rfl, rfl, rfl, by decide +kernel, rfl, by decide +kernel, by decide +kernel⟩
abbrev s_law : Stmt := topS 29
theorem sc_law : FnScope ["_law_script", "_law_d", "_law_turn", "_law_plan_here", "_law_rows", "_law_service", "_law_wants", "_law_text", "_law_one", "_law_part"] ["_law_script"] (defScope s_law) := ⟨rfl, rfl, rfl, by decide +kernel, rfl, by decide +kernel, by decide +kernel⟩
abbrev s_BadPlan___init__ : Stmt := inClass (topS 2) 0
theorem sc_BadPlan___init__ : FnScope ["self", "number"] ["self", "number"] (defScope s_BadPlan___init__) := ⟨rfl, rfl, rfl, by decide +kernel, rfl, by decide +kernel, by decide +kernel⟩
abbrev s_BadRing___init__ : Stmt := inClass (topS 3) 0
theorem sc_BadRing___init__ : FnScope ["self", "ring"] ["self", "ring"] (defScope s_BadRing___init__) := ⟨rfl, rfl, rfl, by decide +kernel, rfl, by decide +kernel, by decide +kernel⟩
abbrev s_BadText___init__ : Stmt := inClass (topS 4) 0
theorem sc_BadText___init__ : FnScope ["self", "row"] ["self", "row"] (defScope s_BadText___init__) := ⟨rfl, rfl, rfl, by decide +kernel, rfl, by decide +kernel, by decide +kernel⟩
end Kr

namespace Kr
open PySem Dl
/-! ### plans as data -/
structure Svc where
  wants : List Nat
  takes : Int
  ends : Int
  waits : Int
  stays : Int
  tries : Int
abbrev Pl := List Svc
def iz (ns : List Nat) : List Int := ns.map fun (n : Nat) => (n : Int)
def svcD (s : Svc) : PyData := .tuple [.tuple ((iz s.wants).map PyData.int), .int s.takes, .int s.ends, .int s.waits, .int s.stays, .int s.tries]
def planD (p : Pl) : PyData := .tuple (p.map svcD)
def wantsOf (p : Pl) (i : Nat) : List Nat := match p[i]? with
  | some s => s.wants
  | none => []
structure GoodS (m i : Nat) (s : Svc) : Prop where
  rise : s.wants.Pairwise (· < ·)
  below : ∀ x ∈ s.wants, x < m ∧ x ≠ i
  takes : 1 ≤ s.takes ∧ s.takes ≤ 20
  ends : 1 ≤ s.ends ∧ s.ends ≤ 20
  waits : 1 ≤ s.waits ∧ s.waits ≤ 20
  stays : 1 ≤ s.stays ∧ s.stays ≤ 50
  tries : 1 ≤ s.tries ∧ s.tries ≤ 9
/-- services that may be, no rings said of -/
structure Sound (p : Pl) : Prop where
  one : 1 ≤ p.length
  few : p.length ≤ 12
  svc : ∀ (i : Nat) (s : Svc), p[i]? = some s → GoodS p.length i s
/-- no rings: a rank that falls along wants -/
def NoRing (p : Pl) : Prop := ∃ rank : Nat → Nat, ∀ i x, x ∈ wantsOf p i → rank x < rank i
structure Good (p : Pl) : Prop where
  sound : Sound p
  free : NoRing p
theorem iz_mem {n : Nat} {ns : List Nat} : (n : Int) ∈ iz ns ↔ n ∈ ns := by
  unfold iz
  constructor
  · intro h
    obtain ⟨m, hm, e⟩ := List.mem_map.mp h
    have : m = n := by omega
    exact this ▸ hm
  · intro h
    exact List.mem_map.mpr ⟨n, h, rfl⟩
theorem iz_app (a b : List Nat) : iz (a ++ b) = iz a ++ iz b := List.map_append
theorem iz_ex {a : Int} {ns : List Nat} (h : a ∈ iz ns) : ∃ x : Nat, a = (x : Int) ∧ x ∈ ns := by
  obtain ⟨x, hx, e⟩ := List.mem_map.mp h
  exact ⟨x, e.symm, hx⟩
theorem iz_rise {ns : List Nat} (h : ns.Pairwise (· < ·)) : (iz ns).Pairwise (· < ·) := by
  unfold iz
  rw [List.pairwise_map]
  exact h.imp fun z => by omega
theorem iz_len (ns : List Nat) : (iz ns).length = ns.length := List.length_map _
theorem wantsOf_some {p : Pl} {i : Nat} {s : Svc} (h : p[i]? = some s) : wantsOf p i = s.wants := by unfold wantsOf; rw [h]
theorem Sound.wants_lt {p : Pl} (h : Sound p) {i x : Nat} (hx : x ∈ wantsOf p i) : x < p.length := by
  unfold wantsOf at hx
  cases e : p[i]? with
  | none => rw [e] at hx; cases hx
  | some s => rw [e] at hx; exact ((h.svc i s e).below x hx).1
theorem rise_len : ∀ {ns : List Nat} {m lo : Nat}, ns.Pairwise (· < ·) → (∀ x ∈ ns, lo ≤ x ∧ x < m) → ns.length ≤ m - lo
  | [], _, _, _, _ => Nat.zero_le _
  | a :: r, m, lo, h, hb => by
    obtain ⟨h1, h2⟩ := List.pairwise_cons.mp h
    have ha := hb a (List.mem_cons_self ..)
    have := rise_len (ns := r) (m := m) (lo := a + 1) h2 fun x hx => ⟨h1 x hx, (hb x (List.mem_cons_of_mem _ hx)).2⟩
    rw [List.length_cons]
    omega
theorem GoodS.few {m i : Nat} {s : Svc} (h : GoodS m i s) : s.wants.length ≤ m := by
  have := rise_len (m := m) (lo := 0) h.rise fun x hx => ⟨Nat.zero_le _, (h.below x hx).1⟩
  omega
end Kr

namespace Kr
open PySem PySem.Spec PyProof.Rows Dl
open TL (tl numL)
/-! ### plans as texts -/
def numI (i : Int) : Str := Str.ofString (toString i)
theorem tl_numI (n : Nat) : tl (numI (n : Int)) = numL n := TL.tl_num n
theorem numI_len {n : Nat} (h : n < 100) : (numI (n : Int)).length ≤ 2 := by
  rw [TL.len_tl, tl_numI]
  exact TL.numL_len (k := 2) (by decide) h
theorem numI_ne (n : Nat) : 1 ≤ (numI (n : Int)).length := by
  rw [TL.len_tl, tl_numI]
  exact List.length_pos_iff.mpr (TL.numL_ne n)
theorem numI_dig {n c : Nat} (h : c ∈ tl (numI (n : Int))) : 48 ≤ c ∧ c ≤ 57 := by
  rw [tl_numI] at h
  exact TL.numL_digits n c h
theorem numI_int {n : Nat} (h : n < 100) : PySem.intText? (numI (n : Int)) = some (n : Int) := TL.int_num (by
  have := TL.numL_len (n := n) (k := 2) (by decide) h
  omega)
theorem numL_head : ∀ n : Nat, n < 100 → 1 < (numL n).length → (numL n)[0]? ≠ some 48 := by decide +kernel
def dashS : Str := Str.ofString "-"
def commaS : Str := Str.ofString ","
def blankS : Str := Str.ofString " "
def lineS : Str := Str.ofString "\n"
def wantsW (s : Svc) : Str := if s.wants = [] then dashS else Txt.join commaS (s.wants.map fun (n : Nat) => numI (n : Int))
def partsOf (s : Svc) : List Int := [s.takes, s.ends, s.waits, s.stays, s.tries]
def wordsOf (s : Svc) : List Str := wantsW s :: (partsOf s).map numI
def rowT (s : Svc) : Str := Txt.join blankS (wordsOf s)
def textOf (p : Pl) : Str := Txt.join lineS (p.map rowT)
theorem joinL_mem {S : List Nat} {c : Nat} : ∀ {ps : List (List Nat)}, c ∈ TL.joinL S ps → c ∈ S ∨ ∃ p ∈ ps, c ∈ p
  | [], h => nomatch h
  | [p], h => .inr ⟨p, List.mem_singleton.mpr rfl, h⟩
  | p :: q :: r, h => by
    have h' : c ∈ p ++ (S ++ TL.joinL S (q :: r)) := h
    rcases List.mem_append.mp h' with h | h
    · exact .inr ⟨p, List.mem_cons_self .., h⟩
    rcases List.mem_append.mp h with h | h
    · exact .inl h
    rcases joinL_mem h with h | ⟨z, hz, hc⟩
    · exact .inl h
    · exact .inr ⟨z, List.mem_cons_of_mem _ hz, hc⟩
theorem joinL_len {S : List Nat} {b : Nat} : ∀ {ps : List (List Nat)}, (∀ p ∈ ps, p.length ≤ b) → (TL.joinL S ps).length ≤ ps.length * (b + S.length)
  | [], _ => Nat.zero_le _
  | [p], h => by
    have := h p (List.mem_singleton.mpr rfl)
    show p.length ≤ 1 * (b + S.length)
    omega
  | p :: q :: r, h => by
    have h1 := h p (List.mem_cons_self ..)
    have h2 := joinL_len (S := S) (b := b) (ps := q :: r) fun z hz => h z (List.mem_cons_of_mem _ hz)
    show (p ++ (S ++ TL.joinL S (q :: r))).length ≤ ((q :: r).length + 1) * (b + S.length)
    rw [List.length_append, List.length_append, Nat.add_mul]
    omega
theorem join_mem {y : Str} {c : Nat} {ps : List Str} (h : c ∈ tl (Txt.join y ps)) : c ∈ tl y ∨ ∃ p ∈ ps, c ∈ tl p := by
  rw [TL.join_eq, TL.tl_join] at h
  rcases joinL_mem h with h | ⟨z, hz, hc⟩
  · exact .inl h
  · obtain ⟨p, hp, rfl⟩ := List.mem_map.mp hz
    exact .inr ⟨p, hp, hc⟩
theorem join_len {y : Str} {b : Nat} {ps : List Str} (h : ∀ p ∈ ps, p.length ≤ b) : (Txt.join y ps).length ≤ ps.length * (b + y.length) := by
  rw [TL.join_eq, TL.len_tl, TL.tl_join, TL.len_tl y]
  have := joinL_len (S := tl y) (b := b) (ps := ps.map tl) fun z hz => by
    obtain ⟨p, hp, rfl⟩ := List.mem_map.mp hz
    rw [← TL.len_tl]
    exact h p hp
  rwa [List.length_map] at this
theorem sum_len {b : Nat} : ∀ {ps : List Str}, (∀ p ∈ ps, p.length ≤ b) → (ps.map (·.length)).sum ≤ ps.length * b
  | [], _ => Nat.zero_le _
  | p :: r, h => by
    have h1 := h p (List.mem_cons_self ..)
    have h2 := sum_len (ps := r) fun z hz => h z (List.mem_cons_of_mem _ hz)
    rw [List.map_cons, List.sum_cons, List.length_cons, Nat.add_mul]
    omega
theorem GoodS.num {m i : Nat} {s : Svc} (h : GoodS m i s) (hm : m ≤ 12) : ∀ x ∈ partsOf s, ∃ n : Nat, x = (n : Int) ∧ n < 100 := fun x hx => by
  have h1 := h.takes
  have h2 := h.ends
  have h3 := h.waits
  have h4 := h.stays
  have h5 := h.tries
  refine ⟨x.toNat, ?_⟩
  simp only [partsOf, List.mem_cons, List.not_mem_nil, or_false] at hx
  rcases hx with rfl | rfl | rfl | rfl | rfl <;> omega
theorem wants_words {m i : Nat} {s : Svc} (h : GoodS m i s) (hm : m ≤ 12) : ∀ w ∈ s.wants.map (fun (n : Nat) => numI (n : Int)), w.length ≤ 2 ∧ ∀ c ∈ tl w, 48 ≤ c ∧ c ≤ 57 := fun w hw => by
  obtain ⟨n, hn, rfl⟩ := List.mem_map.mp hw
  have := (h.below n hn).1
  exact ⟨numI_len (by omega), fun c hc => numI_dig hc⟩
theorem wantsW_ok {m i : Nat} {s : Svc} (h : GoodS m i s) (hm : m ≤ 12) : (wantsW s).length ≤ 100 ∧ ∀ c ∈ tl (wantsW s), c = 45 ∨ c = 44 ∨ (48 ≤ c ∧ c ≤ 57) := by
  unfold wantsW
  by_cases e : s.wants = []
  · rw [if_pos e]
    exact ⟨by decide +kernel, by decide +kernel⟩
  · rw [if_neg e]
    have hw := wants_words h hm
    refine ⟨?_, fun c hc => ?_⟩
    · have h1 := join_len (y := commaS) (b := 2) fun p hp => (hw p hp).1
      rw [List.length_map] at h1
      have h2 := h.few
      have h3 : commaS.length = 1 := by decide +kernel
      rw [h3] at h1
      omega
    · rcases join_mem hc with h1 | ⟨p, hp, hc⟩
      · have : ∀ c ∈ tl commaS, c = 44 := by decide +kernel
        exact .inr (.inl (this c h1))
      · exact .inr (.inr ((hw p hp).2 c hc))
theorem words_ok {m i : Nat} {s : Svc} (h : GoodS m i s) (hm : m ≤ 12) : ∀ w ∈ wordsOf s, w.length ≤ 100 ∧ ∀ c ∈ tl w, c = 45 ∨ c = 44 ∨ (48 ≤ c ∧ c ≤ 57) := fun w hw => by
  rcases List.mem_cons.mp hw with rfl | hw
  · exact wantsW_ok h hm
  · obtain ⟨x, hx, rfl⟩ := List.mem_map.mp hw
    obtain ⟨n, rfl, hn⟩ := h.num hm x hx
    exact ⟨Nat.le_trans (numI_len hn) (by decide), fun c hc => .inr (.inr (numI_dig hc))⟩
theorem row_ok {m i : Nat} {s : Svc} (h : GoodS m i s) (hm : m ≤ 12) : (rowT s).length ≤ 700 ∧ ∀ c ∈ tl (rowT s), c = 32 ∨ c = 45 ∨ c = 44 ∨ (48 ≤ c ∧ c ≤ 57) := by
  have hw := words_ok h hm
  refine ⟨?_, fun c hc => ?_⟩
  · have h1 := join_len (y := blankS) (b := 100) fun p hp => (hw p hp).1
    have h3 : blankS.length = 1 := by decide +kernel
    rw [h3] at h1
    exact Nat.le_trans h1 (by show 6 * (100 + 1) ≤ 700; decide)
  · rcases join_mem hc with h1 | ⟨p, hp, hc⟩
    · have : ∀ c ∈ tl blankS, c = 32 := by decide +kernel
      exact .inl (this c h1)
    · exact .inr ((hw p hp).2 c hc)
theorem split_words {m i : Nat} {s : Svc} (h : GoodS m i s) (hm : m ≤ 12) : Txt.split (rowT s) blankS = wordsOf s :=
  TL.split_join (s := 32) (S := []) (by decide +kernel) (by decide +kernel) (by unfold wordsOf; exact List.cons_ne_nil _ _) fun w hw hc => by
    have := (words_ok h hm w hw).2 32 hc
    omega
theorem split_wants {m i : Nat} {s : Svc} (h : GoodS m i s) (hm : m ≤ 12) (hne : s.wants ≠ []) : Txt.split (Txt.join commaS (s.wants.map fun (n : Nat) => numI (n : Int))) commaS = s.wants.map fun (n : Nat) => numI (n : Int) :=
  TL.split_join (s := 44) (S := []) (by decide +kernel) (by decide +kernel) (fun e => hne (List.map_eq_nil_iff.mp e)) fun w hw hc => by
    have := (wants_words h hm w hw).2 44 hc
    omega
theorem rows_ok {p : Pl} (h : Sound p) : ∀ r ∈ p.map rowT, r.length ≤ 700 ∧ 10 ∉ tl r := fun r hr => by
  obtain ⟨s, hs, rfl⟩ := List.mem_map.mp hr
  obtain ⟨i, hi⟩ := List.mem_iff_getElem?.mp hs
  have := row_ok (h.svc i s hi) h.few
  exact ⟨this.1, fun hc => by have := this.2 10 hc; omega⟩
theorem split_text {p : Pl} (h : Sound p) : Txt.split (textOf p) lineS = p.map rowT :=
  TL.split_join (s := 10) (S := []) (by decide +kernel) (by decide +kernel) (fun e => by
    have h1 := h.one
    rw [List.map_eq_nil_iff.mp e] at h1
    exact absurd h1 (by decide)) fun w hw => (rows_ok h w hw).2
theorem text_len {p : Pl} (h : Sound p) : (textOf p).length ≤ 9000 := by
  have h1 := join_len (y := lineS) (b := 700) fun r hr => (rows_ok h r hr).1
  rw [List.length_map] at h1
  have h3 : lineS.length = 1 := by decide +kernel
  rw [h3] at h1
  have h2 := h.few
  unfold textOf
  omega
theorem dash_ne {m i : Nat} {s : Svc} (h : GoodS m i s) (hm : m ≤ 12) (hne : s.wants ≠ []) : Txt.join commaS (s.wants.map fun (n : Nat) => numI (n : Int)) ≠ dashS := fun e => by
  have e2 := split_wants h hm hne
  rw [e] at e2
  have e3 : Txt.split dashS commaS = [dashS] := by decide +kernel
  rw [e3] at e2
  have hw := (wants_words h hm dashS (by rw [← e2]; exact List.mem_singleton.mpr rfl)).2 45 (by decide +kernel)
  omega
end Kr

local macro_rules | `(tactic| walk_at "krn") => `(tactic| first
  | (with_reducible show Dl.ExS _ _ _ (List.set _ _ _); conv => arg 4; simp only [List.set_cons_zero, List.set_cons_succ])
  | (with_reducible show Dl.EvS _ _ (List.set _ _ _) _; conv => arg 3; simp only [List.set_cons_zero, List.set_cons_succ])
  | (with_reducible show Dl.EvD _ _ (List.set _ _ _) _; conv => arg 3; simp only [List.set_cons_zero, List.set_cons_succ])
  | (with_reducible show Dl.EvT _ _ (List.set _ _ _) _; conv => arg 3; simp only [List.set_cons_zero, List.set_cons_succ])
  | (with_reducible show Dl.EvDs _ _ (List.set _ _ _) _; conv => arg 3; simp only [List.set_cons_zero, List.set_cons_succ]))
local macro_rules | `(tactic| walk_at "kre1") => `(tactic| first
  | walk_at "krn"
  | ((with_reducible apply Dl.ev_Dix); (exact rfl); (first | exact Dl.atI_nat' (i := 0) rfl | exact Dl.atI_nat' (i := 1) rfl))
  | ((with_reducible apply Dl.ev_Dlen); (exact rfl))
  | (with_reducible refine Dl.xs_Dset ?_)
  | (with_reducible refine Dl.xs_seq ?_; try dsimp only)
  | with_reducible refine Dl.xs_retN ?_
  | with_reducible refine Dl.xs_drop ?_
  | with_reducible refine Dl.xs_asg ?_
  | with_reducible refine Dl.xs_if ?_
  | with_reducible refine Dl.xs_next ?_
  | with_reducible refine Dl.xs_break ?_
  | with_reducible refine Dl.ev_pu rfl ?_
  | with_reducible refine Dl.ev_al rfl ?_
  | with_reducible refine Dl.ev_int ?_
  | with_reducible refine Dl.ev_str ?_
  | with_reducible refine Dl.ev_bl ?_
  | with_reducible refine Dl.ev_non ?_
  | with_reducible refine Dl.ev_I0 ?_
  | with_reducible refine Dl.ev_I ?_
  | with_reducible refine Dl.ev_B0 ?_
  | with_reducible refine Dl.ev_neg ?_
  | with_reducible refine Dl.ev_eqX ?_
  | with_reducible refine Dl.ev_neX ?_
  | with_reducible refine Dl.ev_inX ?_
  | with_reducible refine Dl.ev_neNil ?_
  | with_reducible refine Dl.ev_eqNil ?_
  | with_reducible refine Dl.ev_eqD ?_
  | with_reducible refine Dl.ev_neD ?_
  | with_reducible refine Dl.ev_isN ?_
  | with_reducible refine Dl.ev_notN ?_
  | with_reducible refine Dl.ev_ixL ?_
  | with_reducible refine Dl.ev_ixT ?_
  | with_reducible refine Dl.ev_ixB ?_
  | with_reducible refine Dl.ev_catA ?_
  | with_reducible refine Dl.ev_tup ?_
  | with_reducible refine Dl.ev_lst ?_
  | with_reducible refine Dl.eds_cons ?_
  | with_reducible refine Dl.ea_cons ?_
  | with_reducible refine Dl.ea_nil ?_
  | with_reducible refine Dl.eds_nil ?_
  | with_reducible refine Dl.ev_andV ?_
  | with_reducible refine Dl.ev_orV ?_
  | with_reducible refine Dl.ev_notV ?_
  | with_reducible refine Dl.ev_if ?_
  | with_reducible refine Dl.et_B ?_
  | with_reducible refine Dl.et_test ?_
  | with_reducible refine Dl.et_and ?_
  | with_reducible refine Dl.et_or ?_
  | with_reducible refine Dl.et_not ?_
  | with_reducible refine Dl.et_yes ?_
  | with_reducible refine Dl.ev_chain ?_
  | with_reducible refine Dl.ev_len ?_
  | with_reducible refine Dl.ev_list ?_
  | with_reducible refine Dl.ev_tuple ?_
  | with_reducible refine Dl.ev_sortedSet ?_
  | with_reducible refine Dl.ev_sorted ?_
  | with_reducible refine Dl.ev_max ?_
  | with_reducible refine Dl.ev_min ?_
  | with_reducible refine Dl.ev_sum ?_
  | with_reducible refine Dl.ev_all ?_
  | with_reducible refine Dl.ev_abs ?_
  | with_reducible refine Dl.ev_strI ?_
  | with_reducible refine Dl.ev_intB ?_
  | with_reducible refine Dl.ev_intB2 ?_
  | ((with_reducible apply Dl.ev_off); (exact rfl))
  | (refine ⟨rfl, _, rfl, (by decide), (by decide), ?_⟩; show ∀ x : Nat, (x : Int) < _ → _)
  | with_reducible refine Dl.ev_isi Dl.good_int (fun _ => Dl.isi_int) ?_
  | with_reducible refine Dl.ev_isi Dl.good_bool (fun _ => Dl.isi_bool) ?_
  | with_reducible refine Dl.ev_isi Dl.good_str (fun _ => Dl.isi_str) ?_
  | with_reducible refine Dl.ev_isi Dl.good_list (fun _ => Dl.isi_list) ?_
  | with_reducible refine Dl.ev_isi Dl.good_tuple (fun _ => Dl.isi_tup) ?_
  | with_reducible refine Dl.ev_listRg1 ?_
  | with_reducible refine Dl.ev_joinS ?_
  | with_reducible refine Dl.ev_splitS ?_
  | with_reducible refine Dl.ev_ixS ?_
  | with_reducible refine Dl.ev_inSg ?_
  | with_reducible refine Dl.ev_notInSg ?_
  | with_reducible refine Dl.ev_intS ?_
  | with_reducible refine Dl.ev_lenS ?_
  | with_reducible refine Dl.ev_rep ?_
  | with_reducible refine Dl.ev_cat ?_
  | with_reducible refine Dl.ev_slL ?_
  | with_reducible refine Dl.ev_catS ?_
  | with_reducible refine Dl.ev_slT ?_
  | with_reducible refine Dl.eo_none ?_
  | with_reducible refine Dl.eo_some ?_
  | with_reducible refine Dl.ev_dnew ?_
  | with_reducible refine Dl.ev_dnotin ?_
  | with_reducible refine Dl.ed_of ?_
  | with_reducible refine Dl.ev_c (by assumption) ?_
  | with_reducible refine Dl.xs_dput ?_
  | with_reducible refine Dl.xs_setL ?_
  | ((with_reducible refine Dl.ev_append ?_ ?_); rotate_left; (intro R hR; cases hR; exact ⟨_, rfl⟩); refine ⟨_, rfl, ?_⟩)
  | (refine ⟨show List.length _ ≤ 100000 from Nat.le_of_ble_eq_true rfl, ?_⟩)
  | refine Dl.ifT rfl ?_
  | refine Dl.ifF rfl ?_
  | (refine ⟨Nat.le_of_ble_eq_true rfl, _, (show Dl.asn _ _ _ _ from by first | exact rfl | exact ⟨_, rfl, rfl⟩), ?_⟩)
  | (refine ⟨_, _, _, rfl, rfl, rfl, ?_⟩)
  | (refine ⟨_, _, rfl, rfl, ?_⟩)
  | (refine ⟨_, rfl, ?_⟩)
  | (refine Or.inl ⟨_, _, rfl, rfl, ?_⟩)
  | (refine Or.inr (Or.inl ⟨_, _, rfl, rfl, ?_⟩))
  | (refine Or.inl ⟨_, _, rfl, Or.inl (Dl.den_al rfl), ?_⟩)
  | (refine Or.inl ⟨_, _, rfl, Or.inl Dl.den_pu, ?_⟩)
  | (refine Or.inl ⟨_, _, rfl, Or.inr Dl.den_pu, ?_⟩)
  | (refine Or.inl ⟨_, _, rfl, Or.inl Dl.den_ow, ?_⟩)
  | (refine Or.inr (Or.inl ⟨_, _, rfl, Or.inl (Dl.den_al rfl), ?_⟩))
  | (refine Or.inr (Or.inl ⟨_, _, rfl, Or.inl Dl.den_pu, ?_⟩))
  | (refine Or.inr (Or.inl ⟨_, _, rfl, Or.inr Dl.den_pu, ?_⟩))
  | (refine Or.inr (Or.inl ⟨_, _, rfl, Or.inl Dl.den_ow, ?_⟩))
  | (refine Or.inr (Or.inr ⟨_, _, rfl, rfl, rfl, ?_⟩))
  | (refine ⟨_, Dl.den_pu, ?_⟩)
  | (refine ⟨_, Dl.frz_pu, ?_⟩)
  | (refine ⟨_, Dl.frz_ow, ?_⟩)
  | (refine ⟨_, Or.inl Dl.den_pu, ?_⟩)
  | (refine ⟨_, Or.inr Dl.den_pu, ?_⟩)
  | (refine ⟨_, Or.inl (Dl.den_al rfl), ?_⟩)
  | (refine ⟨_, Or.inl Dl.den_ow, ?_⟩)
  | (refine ⟨_, Dl.den_ow, ?_⟩)
  | (refine ⟨_, Dl.den_al rfl, ?_⟩)
  | (refine ⟨_, _, Dl.den_ow, Dl.den_ow, ?_⟩)
  | (refine ⟨_, _, Dl.den_al rfl, Dl.den_ow, ?_⟩)
  | (refine ⟨_, _, Dl.den_ow, Dl.den_al rfl, ?_⟩)
  | (refine ⟨_, _, Dl.den_al rfl, Dl.den_al rfl, ?_⟩)
  | (refine ⟨_, _, Dl.den_pu, Dl.den_pu, ?_⟩))
local macro_rules | `(tactic| walk_at "kr1") => `(tactic| first | with_reducible refine Dl.xs_ret ?_ | walk_at "kre1")
local macro_rules | `(tactic| walk_at "krE") => `(tactic| repeat walk_at "kre1")
local macro_rules | `(tactic| walk_at "kr") => `(tactic| repeat walk_at "kr1")
local macro_rules | `(tactic| walk_at "krK") => `(tactic| dsimp only [L2.cxOf])
local macro_rules | `(tactic| walk_at "krA") => `(tactic| (refine ⟨Nat.le_of_ble_eq_true rfl, _, (by first | exact rfl | exact ⟨_, rfl, rfl⟩), ?_⟩; first | (show Dl.ExS _ _ _ _; conv => arg 4; simp only [List.set_cons_zero, List.set_cons_succ]) | skip))
local macro_rules | `(tactic| walk_at "kr den") => `(tactic| first | exact Dl.den_pu | exact Dl.den_ow | exact Dl.den_al rfl)
namespace Kr
open PySem PySem.Spec PyProof.Rows L2 Dl
open Evl (Ex)
def betw : PyData → Int → Int → Bool
  | .int i, lo, hi => decide (lo ≤ i) && decide (i ≤ hi)
  | _, _, _ => false
theorem filter_no {α : Type} (xs : List α) : xs.filter (fun _ => false) = [] := by induction xs with | nil => rfl | cons x r ih => rw [List.filter_cons, ih]; rfl
theorem shaped_nilL : SeqAt.shaped (.list []) = true := by decide +kernel
theorem betw_yes {i lo hi : Int} (h : lo ≤ i) (h2 : i ≤ hi) : betw (.int i) lo hi = true := by simp [betw, h, h2]
def boundsD : PyData := .tuple [.tuple [.int 1, .int 20], .tuple [.int 1, .int 20], .tuple [.int 1, .int 20], .tuple [.int 1, .int 50], .tuple [.int 1, .int 9]]
section
variable {P : Program} {w : World} {K : PySem.W.Frag} {mg : Str → Option Value} {base : Heap}
def pBetween (ds : List PyData) : Prop := ∃ x lo hi, ds = [x, .int lo, .int hi]
def tBetween (ds : List PyData) (r : Rt) : Prop := ∀ x lo hi, ds = [x, .int lo, .int hi] → r = .d (.bool (betw x lo hi))
theorem ok_is_between (D : Df K mg "is_between" s_is_between ["part", "low", "high"]) (B : Bn mg) : Cal P w K mg base 1 "is_between" (spP K 3 pBetween tBetween) := by
  have nd := sc_is_between.nd
  refine calP D sc_is_between rfl fun f cdv A outer s H E hr => ⟨_, (pss_one (ps_ret (pe_and (pe_callB (Kk.call_isi (K := K)) (by rfl) B.isinstance (by decide +kernel) (pa_cons (pv 0) (pa_cons (pe_bltn (v := .ty "int") (u := .type "int") (by rfl) B.int (by decide +kernel) rfl) pa_nil))) (pe_and (pe_not (pe_callB (Kk.call_isi (K := K)) (by rfl) B.isinstance (by decide +kernel) (pa_cons (pv 0) (pa_cons (pe_bltn (v := .ty "bool") (u := .type "bool") (by rfl) B.bool (by decide +kernel) rfl) pa_nil)))) (pe_one (pe_chain op_le op_le (pv 1) (pv 0) (pv 2))))))), fun ds hn hp => ?_⟩
  obtain ⟨x, lo, hi, rfl⟩ := hp
  show ExS K _ _ [.pu x, .pu (.int lo), .pu (.int hi)]
  walk_at "kr"
  cases x with
  | int i =>
    walk_at "kr"
    refine ifB (fun h1 => ?_) (fun h1 => ?_)
    · walk_at "kr"
      exact rt_d fun x lo hi e => by cases e; simp [betw, h1]
    · exact rt_d fun x lo hi e => by cases e; simp [betw, h1]
  | _ => walk_at "kr"; exact rt_d fun x lo hi e => by cases e; rfl
def pSvc (ds : List PyData) : Prop := ∃ (s : Svc) (m i : Nat), ds = [svcD s, .int (m : Int), .int (i : Int)] ∧ GoodS m i s ∧ m ≤ 12
def tTrue (_ : List PyData) (r : Rt) : Prop := r = .d (.bool true)
theorem ok_is_service (D : Df K mg "is_service" s_is_service ["service", "many", "number"]) (B : Bn mg) (c_is_between : Cal P w K mg base 1 "is_between" (spP K 3 pBetween tBetween)) (hB : Cst K mg "BOUNDS" boundsD) :
    Cal P w K mg base 2 "is_service" (spP K 3 pSvc tTrue) := by
  have nd := sc_is_service.nd
  obtain ⟨vB, uB, hmB, rB, dB⟩ := hB.ex
  have g_BOUNDS : ∃ u, mg "BOUNDS" = some u ∧ RelV vB u := ⟨uB, hmB, rB⟩
  refine calP D sc_is_service rfl fun f cdv A outer st H E hr => ⟨_, (pss_cons (ps_if (PW.pt (pw_or (pt_not (pt_val (pe_callB (Kk.call_isi (K := K)) (by rfl) B.isinstance (by decide +kernel) (pa_cons (pv 0) (pa_cons (pe_bltn (v := .ty "tuple") (u := .type "tuple") (by rfl) B.tuple (by decide +kernel) rfl) pa_nil))))) (pw_or (pt_cmpR op_ne (pe_callB (Kk.call_len_seq (K := K)) (by rfl) B.len (by decide +kernel) (pa_cons (pv 0) pa_nil)) pe_int (nomark _)) (pw_or1 (pt_not (pt_val (pe_callB (Kk.call_isi (K := K)) (by rfl) B.isinstance (by decide +kernel) (pa_cons (pe_ix (Kk.ix_tup (K := K)) (pv 0) pe_int (fun _ _ => rfl)) (pa_cons (pe_bltn (v := .ty "tuple") (u := .type "tuple") (by rfl) B.tuple (by decide +kernel) rfl) pa_nil))))))))) (pss_one (ps_ret pe_bl)) pss_nil)
      (pss_cons (ps_set (i := 3) nd rfl (Or.inl rfl) (pe_ix (Kk.ix_tup (K := K)) (pv 0) pe_int (fun _ _ => rfl)))
      (pss_cons (ps_if (pt_cmpR (Kk.op_neD (K := K) hr.units) (pe_lc (own := [("one", 4)]) rfl nd (Kk.pi_tup (K := K) (pv 3)) (blkOk_by (by kernel_rfl)) (fun _ _ _ _ _ => (pg_name (i := 4) nd rfl (by first | exact Or.inl rfl | exact Or.inr rfl))) (fun _ _ _ _ _ => (pts_one (PW.pt (pw_or (pt_not (pt_val (Dl.pe_c c_is_between hr (pa_cons (pv 4) (pa_cons pe_int (pa_cons (pe_op op_sub (pv 1) pe_int) pa_nil)))))) (pw_or1 (pt_cmpR op_eq (pv 4) (pv 2) (nomark _))))))) (fun _ _ _ _ _ => (pv 4))) (pe_lst pa_nil) (nomark _)) (pss_one (ps_ret pe_bl)) pss_nil)
      (pss_cons (ps_if (pt_cmpR (Kk.op_neD (K := K) hr.units) (pe_callTy (Kk.call_list_of (K := K)) (by rfl) B.list (by decide +kernel) (pa_cons (pv 3) pa_nil)) (pe_callB (Kk.cr_sortedSet (w := w) rfl) (by rfl) B.sorted (by decide +kernel) (pa_cons (pe_callTy (Kk.cr_setI (K := K) (w := w) rfl) (by rfl) B.set_ (by decide +kernel) (pa_cons (pv 3) pa_nil)) pa_nil)) (nomark _)) (pss_one (ps_ret pe_bl)) pss_nil)
      (pss_one (ps_ret (pe_cmpR (Kk.op_eqD (K := K) hr.units) (pe_lc (own := [("k", 5)]) rfl nd (pi_range1 (by rfl) B.range (pa_cons pe_int pa_nil)) (blkOk_by (by kernel_rfl)) (fun _ _ _ _ _ => (pg_name (i := 5) nd rfl (by first | exact Or.inl rfl | exact Or.inr rfl))) (fun _ _ _ _ _ => (pts_one (pt_not (pt_val (Dl.pe_c c_is_between hr (pa_cons (pe_ix (Kk.ix_tup (K := K)) (pv 0) (pe_op op_add pe_int (pv 5)) (fun _ _ => rfl)) (pa_cons (pe_ix (Kk.ix_tup (K := K)) (pe_ix (Kk.ix_tup (K := K)) (C8.pe_gc (by rfl) g_BOUNDS) (pv 5) (fun _ _ => rfl)) pe_int (fun _ _ => rfl)) (pa_cons (pe_ix (Kk.ix_tup (K := K)) (pe_ix (Kk.ix_tup (K := K)) (C8.pe_gc (by rfl) g_BOUNDS) (pv 5) (fun _ _ => rfl)) pe_int (fun _ _ => rfl)) pa_nil)))))))) (fun _ _ _ _ _ => (pv 5))) (pe_lst pa_nil) (nomark _)))))))), fun ds hn hp => ?_⟩
  obtain ⟨s, m, i, rfl, g, hm⟩ := hp
  show ExS K _ _ [.pu (svcD s), .pu (.int m), .pu (.int i), .non, .non, .non]
  walk_at "kr"
  have hs : s.wants.Pairwise (· < ·) := g.rise
  have hlen := g.few
  refine ev_fT (g := PyData.int) (fun _ => false) PyData.int ?_
  walk_at "kr"
  refine ⟨wip1 rfl junk_non, Nat.le_of_ble_eq_true rfl, by rw [iz_len]; omega, fun a ha => ?_, ?_⟩
  · unfold Turn1C
    simp only [List.set_cons_zero, List.set_cons_succ]
    obtain ⟨x, rfl, hx⟩ := iz_ex ha
    have hb := g.below x hx
    walk_at "kr"
    refine ev_call ?_
    walk_at "kr"
    refine ⟨rfl, ⟨_, _, _, rfl⟩, fun r hr => ?_⟩
    rw [hr _ _ _ rfl]
    walk_at "kr"
    rw [betw_yes (by omega) (by omega)]
    walk_at "kr"
    have : decide ((x : Int) = (i : Int)) = false := decide_eq_false fun e => hb.2 (by omega)
    rw [this]
    exact ⟨rfl, rfl, fun z => nomatch z⟩
  walk_at "kr"
  rw [filter_no]
  refine ⟨shaped_nilL, ?_⟩
  walk_at "kr"
  refine ⟨by rw [iz_len]; omega, fun ns' h1 h2 => ?_⟩
  have e : ns' = iz s.wants := rising_unique h1 (iz_rise hs) h2
  subst e
  walk_at "kr"
  refine ⟨shaped_ints _, shaped_ints _, ?_⟩
  walk_at "kr"
  rw [eqvL_ints, decide_eq_true rfl]
  walk_at "kr"
  refine ev_fR (fun _ => false) (fun k => .int (k : Int)) ?_
  walk_at "kr"
  refine ⟨wip1 rfl junk_non, Nat.le_of_ble_eq_true rfl, Nat.le_of_ble_eq_true rfl, fun a ha => ?_, ?_⟩
  · unfold Turn1C
    simp only [List.set_cons_zero, List.set_cons_succ]
    walk_at "kr"
    refine ev_call ?_
    walk_at "kr"
    have ht := g.takes
    have he := g.ends
    have hw := g.waits
    have hy := g.stays
    have hz := g.tries
    have ha5 : a < 5 := ha
    have h5 : a = 0 ∨ a = 1 ∨ a = 2 ∨ a = 3 ∨ a = 4 := by omega
    rcases h5 with rfl | rfl | rfl | rfl | rfl <;>
    · walk_at "kr"
      refine ⟨rfl, ⟨_, _, _, rfl⟩, fun r hr => ?_⟩
      have e : r = .d (.bool true) := (hr _ _ _ rfl).trans (congrArg (fun b => Rt.d (.bool b)) (by
        first
        | exact betw_yes ht.1 ht.2
        | exact betw_yes he.1 he.2
        | exact betw_yes hw.1 hw.2
        | exact betw_yes hy.1 hy.2
        | exact betw_yes hz.1 hz.2))
      rw [e]
      walk_at "kr"
      exact ⟨rfl, rfl, fun z => nomatch z⟩
  walk_at "kr"
  rw [filter_no]
  refine ⟨shaped_nilL, ?_⟩
  exact rt_d rfl
end
end Kr

namespace Kr
open PySem PySem.Spec PyProof.Rows L2 Dl
open Evl (Ex)
theorem nodup_lt : ∀ (n : Nat) (ks : List Int), ks.Nodup → (∀ k ∈ ks, 0 ≤ k ∧ k < n) → ks.length ≤ n
  | 0, [], _, _ => Nat.le_refl _
  | 0, k :: _, _, h => absurd (h k (List.mem_cons_self ..)) (by omega)
  | n + 1, ks, hd, h => by
    have := nodup_lt n (ks.erase (n : Int)) (hd.erase _) fun k hk => by
      obtain ⟨a, b⟩ := (hd.mem_erase_iff).mp hk
      have := h k b
      omega
    have := List.length_erase (a := (n : Int)) (l := ks)
    split at this <;> omega
theorem lookI_none {kvs : List (Int × PyData)} {k : Int} (h : lookI kvs k = none) : k ∉ kvs.map (·.1) := by
  intro hm
  obtain ⟨kv, h1, h2⟩ := List.mem_map.mp hm
  unfold lookI at h
  rw [Option.map_eq_none_iff, List.find?_eq_none] at h
  exact h kv h1 (by simp [h2])
theorem putI_new {kvs : List (Int × PyData)} {k : Int} {d : PyData} (h : k ∉ kvs.map (·.1)) : putI kvs k d = kvs ++ [(k, d)] := by
  unfold putI
  rw [if_neg]
  intro hh
  rw [List.any_eq_true] at hh
  obtain ⟨kv, h1, h2⟩ := hh
  exact h (List.mem_map.mpr ⟨kv, h1, of_decide_eq_true h2⟩)
structure Met (n : Nat) (kvs : List (Int × PyData)) : Prop where
  nd : (kvs.map (·.1)).Nodup
  lt : ∀ k ∈ kvs.map (·.1), 0 ≤ k ∧ k < (n : Int)
theorem Met.len {n : Nat} {kvs : List (Int × PyData)} (h : Met n kvs) : kvs.length ≤ n := by
  have := nodup_lt n _ h.nd h.lt
  rwa [List.length_map] at this
theorem Met.put {n k : Nat} {kvs : List (Int × PyData)} {d : PyData} (h : Met n kvs) (hk : lookI kvs k = none) (hl : k < n) : putI kvs k d = kvs ++ [((k : Int), d)] ∧ Met n (kvs ++ [((k : Int), d)]) := by
  have hn := lookI_none hk
  refine ⟨putI_new hn, ?_, fun j hj => ?_⟩
  · rw [List.map_append, List.nodup_append]
    refine ⟨h.nd, List.nodup_cons.mpr ⟨by simp, List.nodup_nil⟩, fun a ha b hb => ?_⟩
    rw [List.mem_singleton.mp hb]
    intro e
    exact hn (show (k : Int) ∈ _ from (show a = (k : Int) from e) ▸ ha)
  · rw [List.map_append] at hj
    rcases List.mem_append.mp hj with hj | hj
    · exact h.lt j hj
    · rw [List.mem_singleton.mp hj]
      show 0 ≤ (k : Int) ∧ (k : Int) < n
      omega
def rowD (r : List Nat) : PyData := .list ((iz r).map PyData.int)
def rowsD (rs : List (List Nat)) : List PyData := rs.map rowD
theorem okD_rows (rs : List (List Nat)) : okD 2 (.list (rowsD rs)) := okD_list fun x hx => by
  obtain ⟨r, _, e⟩ := List.mem_map.mp hx
  rw [← e]
  exact okD_ints _
theorem rowsD_len (rs : List (List Nat)) : (rowsD rs).length = rs.length := List.length_map _
theorem wants_at {p : Pl} {i x k : Nat} (hx : (wantsOf p i)[k]? = some x) : x ∈ wantsOf p i := List.mem_of_getElem? hx
theorem atI_plan {p : Pl} {i : Nat} (h : i < p.length) : ∃ s, p[i]? = some s ∧ atI (p.map svcD) (i : Int) = some (svcD s) := by
  refine ⟨p[i], List.getElem?_eq_getElem h, atI_nat' ?_⟩
  rw [List.getElem?_map, List.getElem?_eq_getElem h]
  rfl
theorem atI_last {r : List Nat} {x : Nat} : atI ((iz (r ++ [x])).map PyData.int) (-1) = some (.int x) := by
  rw [iz_app, List.map_append]
  have e : ((iz r).map PyData.int ++ (iz [x]).map PyData.int).length = r.length + 1 := by simp [iz]
  unfold atI ixN
  rw [e, if_neg (by omega), if_pos (by omega)]
  show (List.map PyData.int (iz r) ++ [PyData.int (x : Int)])[_]? = _
  rw [List.getElem?_append_right (by simp [iz]; omega)]
  have : (-1 + ((r.length + 1 : Nat) : Int)).toNat - (List.map PyData.int (iz r)).length = 0 := by simp [iz]; omega
  rw [this]
  rfl
theorem iz_at {ns : List Nat} {j : Nat} {y : PyData} (h : ((iz ns).map PyData.int)[j]? = some y) : ∃ z : Nat, y = .int (z : Int) ∧ z ∈ ns := by
  obtain ⟨i, hi, e⟩ := List.mem_map.mp (List.mem_of_getElem? h)
  obtain ⟨z, rfl, hz⟩ := iz_ex hi
  exact ⟨z, e.symm, hz⟩
/-- rows on the way: behind each of them stands one of lower rank -/
def Way (p : Pl) (rank : Nat → Nat) (b m k : Nat) (r : List Nat) : Prop := ∃ (r0 : List Nat) (x : Nat), r = r0 ++ [x] ∧ x < p.length ∧ rank x < m ∧ rank x ≤ rank b ∧ r0.length ≤ k
theorem Way.up {p : Pl} {rank : Nat → Nat} {b m k k2 : Nat} {r : List Nat} (h : Way p rank b m k r) (l : k ≤ k2) : Way p rank b m k2 r := by
  obtain ⟨r0, x, a, b, c, d, e⟩ := h
  exact ⟨r0, x, a, b, c, d, Nat.le_trans e l⟩
section
variable {P : Program} {w : World} {K : PySem.W.Frag} {mg : Str → Option Value} {base : Heap}
def pRing (ds : List PyData) : Prop := ∃ (p : Pl) (b : Nat), ds = [planD p, .int (b : Int)] ∧ Good p ∧ b < p.length
def tNone (_ : List PyData) (r : Rt) : Prop := r = .d .none
theorem ok_ring_from (D : Df K mg "ring_from" s_ring_from ["plan", "begin"]) (B : Bn mg) : Cal P w K mg base 1 "ring_from" (spP K 2 pRing tNone) := by
  have nd := sc_ring_from.nd
  refine calP D sc_ring_from rfl fun f cdv A outer st H E hr => ⟨_, (pss_cons (ps_set (i := 2) nd rfl (Or.inl rfl) (pe_lst (pa_cons (pe_lst (pa_cons (pv 1) pa_nil)) pa_nil)))
      (pss_cons (ps_set (i := 3) nd rfl (Or.inl rfl) pe_dnewK)
      (pss_cons (ps_while PassesOwn.never (pt_cmpR (Kk.op_neD (K := K) hr.units) (pv 2) (pe_lst pa_nil) (nomark _)) (pss_cons (ps_set (i := 4) nd rfl (Or.inl rfl) (pe_lst pa_nil))
      (pss_cons (ps_for PassesOwn.never rfl (Kk.pi_list (K := K) (pv 2)) (pg_name (i := 5) nd rfl (Or.inl rfl)) (pss_one (ps_for PassesOwn.never rfl (Kk.pi_tup (K := K) (pe_ix (Kk.ix_tup (K := K)) (pe_ix (Kk.ix_tup (K := K)) (pv 0) (pe_ix (Kk.ix_list (K := K)) (pv 5) (pe_un un_neg pe_int) (fun _ _ => rfl)) (fun _ _ => rfl)) pe_int (fun _ _ => rfl))) (pg_name (i := 6) nd rfl (Or.inl rfl)) (pss_cons (ps_if (pt_cmpR op_eq (pv 6) (pv 1) (nomark _)) (pss_one (ps_ret (pv 5))) pss_nil)
      (pss_one (ps_if (pt_cmp (pc_dnotin (Kk.hu hr) (pv 6) (pv 3))) (pss_cons (ps_dput (Kk.hu hr) (pv 3) (pv 6) pe_bl rfl)
      (pss_one (ps_expr (Kk.pe_bm (K := K) PySem.F.plainAttrs_list PySem.F.slot_list_append PySem.F.type_list_append mt_append (pv 4) (pa_cons (pe_op (Kk.op_catS (K := K)) (pv 5) (pe_lst (pa_cons (pv 6) pa_nil))) pa_nil))))) pss_nil))))))
      (pss_one (ps_set (i := 2) nd rfl (Or.inl rfl) (pv 4))))))
      (pss_one (ps_ret pe_non))))), fun ds hn hp => ?_⟩
  obtain ⟨p, b, rfl, hg, hb⟩ := hp
  obtain ⟨rank, hrank⟩ := hg.free
  have hlen := hg.sound.few
  show ExS K _ _ [.pu (planD p), .pu (.int b), .non, .non, .non, .non, .non]
  walk_at "kr"
  refine xs_while (fun m δ' => ∃ rs kvs x5 x6, δ' = [.pu (planD p), .pu (.int b), .ow (RL K (rowsD rs)), .ow (RDk K kvs), .non, x5, x6] ∧ (∀ r ∈ rs, Way p rank b m kvs.length r) ∧ Met p.length kvs ∧ rs.length ≤ kvs.length + 1) (rank b + 1) ⟨[[b]], [], .non, .non, rfl, ?_, ⟨List.nodup_nil, fun k hk => nomatch hk⟩, Nat.le_refl _⟩ ?_
  · intro r hr
    rw [List.mem_singleton.mp hr]
    exact ⟨[], b, rfl, hb, Nat.lt_succ_self _, Nat.le_refl _, Nat.zero_le _⟩
  · rintro m _ ⟨rs, kvs, x5, x6, rfl, hway, hmet, hrs⟩
    walk_at "kr"
    refine ⟨(okD_rows rs).shaped (by decide), ?_⟩
    cases rs with
    | nil => 
      walk_at "kr"
      exact rt_d rfl
    | cons ra rs =>
      have hm : 0 < m := by
        obtain ⟨_, _, _, _, h, _⟩ := hway ra (List.mem_cons_self ..)
        omega
      walk_at "kr"
      refine xs_frz (j := 2) rfl ?_
      generalize ra :: rs = rows at hway hrs
      have hk12 := hmet.len
      walk_at "kr"
      refine xs_forL (ed_of (ev_pu rfl ⟨_, frz_pu, _, rfl, fun _ δ' => ∃ fur kvs2 x5 x6, δ' = [.pu (planD p), .pu (.int b), .pu (.list (rowsD rows)), .ow (RDk K kvs2), .ow (RL K (rowsD fur)), x5, x6] ∧ kvs.length ≤ kvs2.length ∧ (∀ r ∈ fur, Way p rank b (m - 1) kvs2.length r) ∧ Met p.length kvs2 ∧ fur.length ≤ kvs2.length, ⟨[], kvs, x5, x6, rfl, Nat.le_refl _, fun _ z => (nomatch z), hmet, Nat.zero_le _⟩, fun i y δ' hy => ?_, fun δ' => ?_⟩))
      · rintro ⟨fur, kvs2, x5, x6, rfl, hkk, hfur, hmet2, hfl⟩
        rw [rowsD, List.getElem?_map] at hy
        cases hr2 : rows[i]? with
        | none => rw [hr2] at hy; cases hy
        | some r =>
        rw [hr2] at hy
        cases hy
        obtain ⟨r0, x, rfl, hx, hxm, hxb, hr0⟩ := hway r (List.mem_of_getElem? hr2)
        obtain ⟨s, hs, hat⟩ := atI_plan hx
        refine turn1_name (Nat.le_of_ble_eq_true rfl) ?_
        walk_at "kr"
        refine xs_forT ?_
        walk_at "kr"
        refine ⟨_, _, _, den_pu, rfl, atI_last, _, _, _, rfl, rfl, hat, ?_⟩
        walk_at "kr"
        refine ⟨fun _ δ' => ∃ fur kvs2 x6, δ' = [.pu (planD p), .pu (.int b), .pu (.list (rowsD rows)), .ow (RDk K kvs2), .ow (RL K (rowsD fur)), .pu (rowD (r0 ++ [x])), x6] ∧ kvs.length ≤ kvs2.length ∧ (∀ r ∈ fur, Way p rank b (m - 1) kvs2.length r) ∧ Met p.length kvs2 ∧ fur.length ≤ kvs2.length, ⟨fur, kvs2, x6, rfl, hkk, hfur, hmet2, hfl⟩, fun j y δ' hy => ?_, fun δ' => ?_⟩
        · rintro ⟨fur, kvs2, x6, rfl, hkk, hfur, hmet2, hfl⟩
          obtain ⟨z, rfl, hz⟩ := iz_at hy
          have hzw : z ∈ wantsOf p x := by rw [wantsOf_some hs]; exact hz
          have hzl := hg.sound.wants_lt hzw
          have hzr := hrank x z hzw
          have h12 := hmet2.len
          refine turn1_name (Nat.le_of_ble_eq_true rfl) ?_
          walk_at "kr"
          rw [show decide ((z : Int) = (b : Int)) = false from decide_eq_false fun e => by
            have : z = b := by omega
            rw [this] at hzr
            omega]
          walk_at "kr"
          refine ifB (fun hn => ?_) (fun hn => ?_)
          · have hln : lookI kvs2 (z : Int) = none := by
              cases e : lookI kvs2 (z : Int) with
              | none => rfl
              | some _ => rw [e] at hn; cases hn
            obtain ⟨e1, e2⟩ := hmet2.put (d := .bool true) hln hzl
            walk_at "kr"
            refine ⟨by omega, ?_⟩
            rw [e1]
            walk_at "kr"
            refine ⟨_, _, den_pu, den_ow, ?_⟩
            have hl := hr0
            refine ⟨?_, ?_⟩
            · simp [iz]
              omega
            walk_at "kr"
            refine ⟨by rw [rowsD_len]; omega, ?_⟩
            walk_at "kr"
            refine ⟨fur ++ [r0 ++ [x] ++ [z]], _, .pu (.int (z : Int)), ?_, ?_, ?_, e2, ?_⟩
            · simp [rowsD, rowD, iz]
            · rw [List.length_append]
              omega
            · intro r hr
              rcases List.mem_append.mp hr with hr | hr
              · exact (hfur r hr).up (by rw [List.length_append]; omega)
              · rw [List.mem_singleton.mp hr]
                refine ⟨r0 ++ [x], z, rfl, hzl, by omega, by omega, ?_⟩
                rw [List.length_append, List.length_append]
                simp
                omega
            · rw [List.length_append, List.length_append]
              simp
              omega
          · walk_at "kr"
            exact ⟨fur, kvs2, _, rfl, hkk, hfur, hmet2, hfl⟩
        · rintro ⟨fur, kvs2, x6, rfl, hkk, hfur, hmet2, hfl⟩
          exact ⟨fur, kvs2, _, x6, rfl, hkk, hfur, hmet2, hfl⟩
      · rintro ⟨fur, kvs2, x5, x6, rfl, hkk, hfur, hmet2, hfl⟩
        walk_at "kr"
        exact ⟨m - 1, by omega, fur, kvs2, x5, x6, rfl, hfur, hmet2, by omega⟩
end
end Kr

namespace Kr
open PySem PySem.Spec PyProof.Rows L2 Dl
open Evl (Ex)
theorem tgl2 {n a b : Nat} {x y : PyData} (h : a < n) (h2 : b < n) : ∀ p ∈ [(a, x), (b, y)], p.1 < n := fun p hp => by
  rcases List.mem_cons.mp hp with rfl | hp
  · exact h
  · rw [List.mem_singleton.mp hp]
    exact h2
theorem planD_len (p : Pl) : (p.map svcD).length = p.length := List.length_map _
section
variable {P : Program} {w : World} {K : PySem.W.Frag} {mg : Str → Option Value} {base : Heap}
def pGood (ds : List PyData) : Prop := ∃ (p : Pl), ds = [planD p] ∧ Good p
def pRing2 (ds : List PyData) : Prop := ∃ (p : Pl) (b : Nat), ds = [planD p, .int (b : Int)] ∧ Good p ∧ b < p.length
theorem ok_first_ring (D : Df K mg "first_ring" s_first_ring ["plan"]) (B : Bn mg) (c_ring_from : Cal P w K mg base 1 "ring_from" (spP K 2 pRing tNone)) : Cal P w K mg base 2 "first_ring" (spP K 1 pGood tNone) := by
  have nd := sc_first_ring.nd
  refine calP D sc_first_ring rfl fun f cdv A outer st H E hr => ⟨_, (pss_cons (ps_set (i := 1) nd rfl (Or.inl rfl) pe_non)
      (pss_cons (ps_for PassesOwn.never rfl (pi_range1 (by rfl) B.range (pa_cons (pe_callB (Kk.call_len_seq (K := K)) (by rfl) B.len (by decide +kernel) (pa_cons (pv 0) pa_nil)) pa_nil)) (pg_name (i := 2) nd rfl (Or.inl rfl)) (pss_cons (ps_set (i := 3) nd rfl (Or.inl rfl) (Dl.pe_c c_ring_from hr (pa_cons (pv 0) (pa_cons (pv 2) pa_nil))))
      (pss_one (ps_if (PW.pt (pw_and (pt_cmp (pc_notN (pv 3))) (pw_and1 (PW.pt (pw_or (pt_cmp (pc_isN (pv 1))) (pw_or1 (pt_cmpR op_lt (pe_tup (pa_cons (pe_callB (Kk.call_len_seq (K := K)) (by rfl) B.len (by decide +kernel) (pa_cons (pv 3) pa_nil)) (pa_cons (pv 3) pa_nil))) (pe_tup (pa_cons (pe_callB (Kk.call_len_seq (K := K)) (by rfl) B.len (by decide +kernel) (pa_cons (pv 1) pa_nil)) (pa_cons (pv 1) pa_nil))) (nomark _)))))))) (pss_one (ps_set (i := 1) nd rfl (Or.inl rfl) (pv 3))) pss_nil))))
      (pss_one (ps_ret (pv 1))))), fun ds hn hp => ?_⟩
  obtain ⟨p, rfl, hg⟩ := hp
  have hlen := hg.sound.few
  show ExS K _ _ [.pu (planD p), .non, .non, .non]
  walk_at "kr"
  refine xs_forR1 ?_
  walk_at "kr"
  rw [planD_len]
  refine ⟨by omega, by omega, fun _ δ' => ∃ x2 x3, δ' = [.pu (planD p), .pu .none, x2, x3], ⟨_, _, rfl⟩, fun i δ' hi => ?_, fun δ' => ?_⟩
  · rintro ⟨x2, x3, rfl⟩
    refine turn1_name (Nat.le_of_ble_eq_true rfl) ?_
    walk_at "kr"
    refine ev_call ?_
    walk_at "kr"
    refine ⟨rfl, ⟨p, i, rfl, hg, by omega⟩, fun r hr => ?_⟩
    cases (show r = .d .none from hr)
    walk_at "kr"
    exact ⟨_, _, rfl⟩
  · rintro ⟨x2, x3, rfl⟩
    walk_at "kr"
    exact rt_d rfl
theorem ok_need_services (D : Df K mg "need_services" s_need_services ["plan"]) (B : Bn mg) (hB : Cst K mg "MOST_SERVICES" (.int 12)) (c_is_service : Cal P w K mg base 2 "is_service" (spP K 3 pSvc tTrue)) : Cal P w K mg base 3 "need_services" (spP K 1 pGood tNone) := by
  have nd := sc_need_services.nd
  obtain ⟨vM, uM, hmM, rM, dM⟩ := hB.ex
  have g_MOST_SERVICES : ∃ u, mg "MOST_SERVICES" = some u ∧ RelV vM u := ⟨uM, hmM, rM⟩
  refine calP D sc_need_services rfl fun f cdv A outer st H E hr => ⟨_, (pss_cons (ps_if (PW.pt (pw_or (pt_not (pt_val (pe_callB (Kk.call_isi (K := K)) (by rfl) B.isinstance (by decide +kernel) (pa_cons (pv 0) (pa_cons (pe_bltn (v := .ty "tuple") (u := .type "tuple") (by rfl) B.tuple (by decide +kernel) rfl) pa_nil))))) (pw_or1 (pt_not (pt_chain op_le op_le pe_int (pe_callB (Kk.call_len_seq (K := K)) (by rfl) B.len (by decide +kernel) (pa_cons (pv 0) pa_nil)) (C8.pe_gc (by rfl) g_MOST_SERVICES)))))) (pss_one ps_never) pss_nil)
      (pss_one (ps_for PassesOwn.never rfl (Kk.pi_enumT (K := K) (by rfl) B.enumerate (pa_cons (pv 0) pa_nil)) (Kk.pg_tup (K := K) (by rfl) (pgs_cons (pg_name (i := 1) nd rfl (Or.inl rfl)) (pgs_cons (pg_name (i := 2) nd rfl (Or.inl rfl)) pgs_nil))) (pss_one (ps_if (pt_not (pt_val (Dl.pe_c c_is_service hr (pa_cons (pv 2) (pa_cons (pe_callB (Kk.call_len_seq (K := K)) (by rfl) B.len (by decide +kernel) (pa_cons (pv 0) pa_nil)) (pa_cons (pv 1) pa_nil)))))) (pss_one ps_never) pss_nil))))), fun ds hn hp => ?_⟩
  obtain ⟨p, rfl, hg⟩ := hp
  have hlen := hg.sound.few
  show ExS K _ _ [.pu (planD p), .non, .non]
  walk_at "kr"
  have h1 := hg.sound.one
  rw [planD_len, decide_eq_true (show (1 : Int) ≤ (p.length : Int) by omega)]
  walk_at "kr"
  rw [decide_eq_true (show (p.length : Int) ≤ 12 by omega)]
  walk_at "kr"
  refine xs_forET ?_
  walk_at "kr"
  refine ⟨fun _ δ' => ∃ x1 x2, δ' = [.pu (planD p), x1, x2], ⟨_, _, rfl⟩, fun i y δ' hy => ?_, fun δ' => ?_⟩
  · rintro ⟨x1, x2, rfl⟩
    rw [List.getElem?_map] at hy
    cases hs : p[i]? with
    | none => rw [hs] at hy; cases hy
    | some s =>
    rw [hs] at hy
    cases hy
    refine turn1 tg_tup2 ?_ ?_
    · exact tgl2 (Nat.le_of_ble_eq_true rfl) (Nat.le_of_ble_eq_true rfl)
    show ExS K _ _ [.pu (planD p), .pu (.int i), .pu (svcD s)]
    walk_at "kr"
    refine ev_call ?_
    walk_at "kr"
    rw [planD_len]
    refine ⟨rfl, ⟨s, p.length, i, rfl, hg.sound.svc i s hs, hlen⟩, fun r hr => ?_⟩
    cases (show r = .d (.bool true) from hr)
    walk_at "kr"
    exact ⟨_, _, rfl⟩
  · rintro ⟨x1, x2, rfl⟩
    walk_at "kr"
    rfl
theorem ok_need_plan (D : Df K mg "need_plan" s_need_plan ["plan"]) (B : Bn mg) (c_need_services : Cal P w K mg base 3 "need_services" (spP K 1 pGood tNone)) (c_first_ring : Cal P w K mg base 2 "first_ring" (spP K 1 pGood tNone)) : Cal P w K mg base 4 "need_plan" (spP K 1 pGood tNone) := by
  have nd := sc_need_plan.nd
  refine calP D sc_need_plan rfl fun f cdv A outer st H E hr => ⟨_, (pss_cons (ps_expr (Dl.pe_c c_need_services hr (pa_cons (pv 0) pa_nil)))
      (pss_cons (ps_set (i := 1) nd rfl (Or.inl rfl) (Dl.pe_c c_first_ring hr (pa_cons (pv 0) pa_nil)))
      (pss_one (ps_if (pt_cmp (pc_notN (pv 1))) (pss_one ps_never) pss_nil)))), fun ds hn hp => ?_⟩
  obtain ⟨p, rfl, hg⟩ := hp
  show ExS K _ _ [.pu (planD p), .non]
  walk_at "kr"
  refine ev_call ?_
  walk_at "kr"
  refine ⟨rfl, ⟨p, rfl, hg⟩, fun r hr => ?_⟩
  cases (show r = .d .none from hr)
  walk_at "kr"
  refine ev_call ?_
  walk_at "kr"
  refine ⟨rfl, ⟨p, rfl, hg⟩, fun r hr => ?_⟩
  cases (show r = .d .none from hr)
  walk_at "kr"
  rfl
end
end Kr

namespace Kr
open PySem PySem.Spec PyProof.Rows L2 Dl
open Evl (Ex)
section
variable {P : Program} {w : World} {K : PySem.W.Frag} {mg : Str → Option Value} {base : Heap}
/-! ### the laws' own: draws, likeness -/
def pDice (ds : List PyData) : Prop := ∃ (ns : List Int) (k : Int), ds = [.list (ns.map PyData.int), .int k] ∧ ns.length ≤ 900 ∧ 0 ≤ k
def tDice (_ : List PyData) (r : Rt) : Prop := ∃ xs : List Int, r = .l (xs.map PyData.int) ∧ DiceOk xs
theorem ok__law_dice (D : Df K mg "_law_dice" s__law_dice ["_law_script", "_law_k"]) (B : Bn mg) : Cal P w K mg base 1 "_law_dice" (spP K 2 pDice tDice) := by
  have nd := sc__law_dice.nd
  refine calP D sc__law_dice rfl fun f cdv A outer st H E hr => ⟨_, (pss_cons (ps_set (i := 2) nd rfl (Or.inl rfl) (pv 1))
      (pss_cons (ps_for PassesOwn.never rfl (Kk.pi_list (K := K) (pv 0)) (pg_name (i := 3) nd rfl (Or.inl rfl)) (pss_one (ps_set (i := 2) nd rfl (Or.inl rfl) (pe_op op_mod (pe_op op_add (pe_op op_mul (pv 2) pe_int) (pe_callB call_abs (by rfl) B.abs (by decide +kernel) (pa_cons (pv 3) pa_nil))) pe_int))))
      (pss_one (ps_ret (pe_op (Kk.op_catS (K := K)) (pe_lst (pa_cons (pv 2) (pa_cons pe_int pa_nil))) (pe_lc (own := [("_law_cell", 3)]) rfl nd (Kk.pi_list (K := K) (pv 0)) (blkOk_by (by kernel_rfl)) (fun _ _ _ _ _ => (pg_name (i := 3) nd rfl (by first | exact Or.inl rfl | exact Or.inr rfl))) (fun _ _ _ _ _ => (pts_one (pt_cmpR op_ge (pv 3) (pe_op op_pow pe_int pe_int) (nomark _)))) (fun _ _ _ _ _ => (pv 3)))))))), fun ds hn hp => ?_⟩
  obtain ⟨ns, k, rfl, hl, hk⟩ := hp
  show ExS K _ _ [.pu (.list (ns.map PyData.int)), .pu (.int k), .non, .non]
  walk_at "kr"
  refine xs_forL (ed_of (ev_pu rfl ⟨_, frz_pu, _, rfl, fun _ δ' => ∃ (g : Int) (x3 : Slot), δ' = [.pu (.list (ns.map PyData.int)), .pu (.int k), .pu (.int g), x3] ∧ Junk x3 ∧ 0 ≤ g, ⟨k, .non, rfl, junk_non, hk⟩, fun i y δ' hy => ?_, fun δ' => ?_⟩))
  · rintro ⟨g, x3, rfl, hj, hg⟩
    obtain ⟨z, hz, rfl⟩ := List.mem_map.mp (List.mem_of_getElem? hy)
    refine turn1_name (Nat.le_of_ble_eq_true rfl) ?_
    walk_at "kr"
    refine ⟨.inr (by omega), ?_⟩
    walk_at "kr"
    refine ⟨by decide, ?_⟩
    walk_at "kr"
    exact ⟨_, _, rfl, junk_pu, Int.emod_nonneg _ (by decide)⟩
  · rintro ⟨g, x3, rfl, hj, hg⟩
    walk_at "kr"
    refine ev_fL (g := PyData.int) (fun z => decide (1000000000000000000 ≤ z)) PyData.int ?_
    walk_at "kr"
    refine ⟨wip1 rfl hj, Nat.le_of_ble_eq_true rfl, by omega, fun a ha => ?_, ?_⟩
    · unfold Turn1C
      simp only [List.set_cons_zero, List.set_cons_succ]
      walk_at "kr"
      refine ⟨⟨by decide, by decide, by decide⟩, ?_⟩
      walk_at "kr"
      refine ⟨rfl, rfl, fun _ => ?_⟩
      walk_at "kr"
      exact ⟨rfl, rfl⟩
    · walk_at "kr"
      have hf := List.length_filter_le (fun z : Int => decide (1000000000000000000 ≤ z)) ns
      refine ⟨by rw [List.length_map]; show 2 + _ ≤ _; omega, ?_⟩
      refine rt_l ⟨g :: 0 :: ns.filter fun z => decide (1000000000000000000 ≤ z), rfl, ?_, ?_, fun x hx => ?_⟩
      · show 2 ≤ _ + 1 + 1
        omega
      · show _ + 1 + 1 ≤ 1000
        omega
      · rcases List.mem_cons.mp hx with rfl | hx
        · exact hg
        rcases List.mem_cons.mp hx with rfl | hx
        · exact Int.le_refl _
        have := of_decide_eq_true (List.mem_filter.mp hx).2
        omega
theorem ok__law_off (D : Df K mg "_law_off" s__law_off ["_law_d", "_law_most"]) (B : Bn mg) : Cal P w K mg base 1 "_law_off" (spDi K 1 pOff tOff) := by
  have nd := sc__law_off.nd
  refine calDi D sc__law_off rfl fun f cdv A outer st H E hr => ⟨_, (pss_cons (ps_if (PW.pt (pw_and (pt_cmpR op_eq (pe_ix (Kk.ix_list (K := K)) (pv 0) pe_int (fun _ _ => rfl)) pe_int (nomark _)) (pw_and1 (pt_cmpR op_gt (pe_callB (Kk.call_len_seq (K := K)) (by rfl) B.len (by decide +kernel) (pa_cons (pv 0) pa_nil)) pe_int (nomark _))))) (pss_one (ps_asg (Kk.pe_bm (K := K) PySem.F.plainAttrs_list PySem.F.slot_list_pop PySem.F.type_list_pop mt_popAt (pv 0) (pa_cons pe_int pa_nil)) (pg_sub (pv 0) pe_int set_list))) pss_nil)
      (pss_cons (ps_if (pt_cmpR op_gt (pe_ix (Kk.ix_list (K := K)) (pv 0) pe_int (fun _ _ => rfl)) pe_int (nomark _)) (pss_cons (ps_set (i := 2) nd rfl (Or.inl rfl) (pe_op op_mod (pe_ix (Kk.ix_list (K := K)) (pv 0) pe_int (fun _ _ => rfl)) (pv 1)))
      (pss_cons (ps_asg (pe_op op_fdiv (pe_ix (Kk.ix_list (K := K)) (pv 0) pe_int (fun _ _ => rfl)) (pv 1)) (pg_sub (pv 0) pe_int set_list))
      (pss_one (ps_ret (pv 2))))) pss_nil)
      (pss_cons (ps_asg (pe_op op_mod (pe_op op_add (pe_op op_mul (pe_ix (Kk.ix_list (K := K)) (pv 0) pe_int (fun _ _ => rfl)) pe_int) pe_int) pe_int) (pg_sub (pv 0) pe_int set_list))
      (pss_one (ps_ret (pe_op op_mod (pe_op op_fdiv (pe_ix (Kk.ix_list (K := K)) (pv 0) pe_int (fun _ _ => rfl)) pe_int) (pv 1))))))), fun d ds hn hp => ?_⟩
  obtain ⟨k, rfl, hk, hk2⟩ := hp
  show ExS K _ _ [.ow (RDi d), .pu (.int k), .non]
  refine xs_dopen (j := 0) rfl fun xs ok => ?_
  obtain ⟨h2, h1000, hpos⟩ := ok
  match xs, h2, h1000, hpos with
  | x0 :: x1 :: r, h2, h1000, hpos =>
  have p0 := hpos x0 (List.mem_cons_self ..)
  have p1 := hpos x1 (List.mem_cons_of_mem _ (List.mem_cons_self ..))
  have pr : ∀ x ∈ r, 0 ≤ x := fun x hx => hpos x (List.mem_cons_of_mem _ (List.mem_cons_of_mem _ hx))
  have hr1 : r.length ≤ 998 := by have : r.length + 1 + 1 ≤ 1000 := h1000; omega
  refine xs_seq (xs_mid (fun δ' => ∃ x1 r, δ' = [.ow (RDl d (x0 :: x1 :: r)), .pu (.int k), .non] ∧ 0 ≤ x1 ∧ (∀ x ∈ r, 0 ≤ x) ∧ r.length ≤ 998) ?_ ?_)
  · walk_at "kr"
    refine ifB (fun h1 => ?_) (fun h1 => ?_)
    · walk_at "kr"
      refine ifB (fun h2 => ?_) (fun h2 => ?_)
      · match r, of_decide_eq_true h2, hr1, pr with
        | [], h2, _, _ => exact absurd (show (2 : Int) < 2 from h2) (by decide)
        | r0 :: r, _, hr1, pr =>
        have hrl : r.length + 1 ≤ 998 := hr1
        walk_at "kr"
        refine ev_Dpop (i := 2) (xs := x0 :: x1 :: r0 :: r) rfl rfl (by show r.length + 1 + 1 + 1 ≤ _; omega) ?_
        refine ⟨_, _, _, _, rfl, rfl, ixN_nat (k := 1) (by show 1 < _ + 1 + 1; omega), ?_⟩
        exact ⟨r0, r, rfl, pr r0 (List.mem_cons_self ..), fun x hx => pr x (List.mem_cons_of_mem _ hx), by omega⟩
      · walk_at "kr"
        exact ⟨x1, r, rfl, p1, pr, hr1⟩
    · walk_at "kr"
      exact ⟨x1, r, rfl, p1, pr, hr1⟩
  · clear pr hr1 p1
    rintro _ ⟨x1, r, rfl, p1, pr, hr1⟩
    have okr : ∀ a b : Int, 0 ≤ a → 0 ≤ b → DiceOk (a :: b :: r) := fun a b ha hb => ⟨Nat.le_add_left _ _, by show r.length + 1 + 1 ≤ 1000; omega, fun x hx => by
      rcases List.mem_cons.mp hx with rfl | hx
      · exact ha
      rcases List.mem_cons.mp hx with rfl | hx
      · exact hb
      exact pr x hx⟩
    walk_at "krE"
    refine ifB (fun h1 => ?_) (fun h1 => ?_)
    · walk_at "krE"
      refine ⟨hk, ?_⟩
      walk_at "krE"
      refine ⟨⟨hk, hk2⟩, ?_⟩
      refine ⟨_, _, _, _, rfl, rfl, ixN_nat (k := 1) (by show 1 < _ + 1 + 1; omega), ?_⟩
      walk_at "krE"
      refine xs_dclose (j := 0) rfl (okr _ _ p0 (Int.ediv_nonneg p1 (Int.le_of_lt hk))) ?_
      walk_at "kr"
      exact ⟨rt_d fun k2 hk2 => by
        cases hk2
        have h0 := Int.emod_nonneg x1 (b := k) (by omega)
        have h3 := Int.emod_lt_of_pos x1 hk
        exact ⟨(x1 % k).toNat, by rw [Int.toNat_of_nonneg h0], by omega⟩, rfl, fun z => nomatch z⟩
    · walk_at "krE"
      refine ⟨.inr (by decide), ?_⟩
      walk_at "krE"
      refine ⟨by decide, ?_⟩
      refine ⟨_, _, _, _, rfl, rfl, ixN_nat (k := 0) (by show 0 < _ + 1 + 1; omega), ?_⟩
      walk_at "krE"
      have hq : 0 ≤ (x0 * 48271 + 11) % 2147483647 := Int.emod_nonneg _ (by decide)
      generalize (x0 * 48271 + 11) % 2147483647 = q at hq
      refine xs_ret ?_
      walk_at "krE"
      refine ⟨⟨by decide, by decide⟩, ?_⟩
      refine ev_dclose (j := 0) rfl (okr q x1 hq p1) ?_
      walk_at "kr"
      refine ⟨hk, ?_⟩
      exact ⟨rt_d fun k2 hk2 => by
        cases hk2
        have h0 := Int.emod_nonneg (q / 64) (b := k) (by omega)
        have h3 := Int.emod_lt_of_pos (q / 64) hk
        exact ⟨(q / 64 % k).toNat, by rw [Int.toNat_of_nonneg h0], by omega⟩, rfl, fun z => nomatch z⟩
end
end Kr

namespace Kr
open PySem PySem.Spec PyProof.Rows L2 Dl
open Evl (Ex)
/-- data of depth n, its rows short -/
def szD : Nat → PyData → Prop
  | 0, d => flatD d = true
  | n + 1, d => flatD d = true ∨ ∃ ds, (d = .list ds ∨ d = .tuple ds) ∧ ds.length ≤ 100000 ∧ ∀ x ∈ ds, szD n x
theorem szD_flat {n : Nat} {d : PyData} (h : flatD d = true) : szD n d := by
  cases n with
  | zero => exact h
  | succ n => exact .inl h
theorem szD_list {n : Nat} {ds : List PyData} (hl : ds.length ≤ 100000) (h : ∀ x ∈ ds, szD n x) : szD (n + 1) (.list ds) := .inr ⟨ds, .inl rfl, hl, h⟩
theorem szD_tuple {n : Nat} {ds : List PyData} (hl : ds.length ≤ 100000) (h : ∀ x ∈ ds, szD n x) : szD (n + 1) (.tuple ds) := .inr ⟨ds, .inr rfl, hl, h⟩
theorem filter_yes {α : Type} (xs : List α) : xs.filter (fun _ => true) = xs := by induction xs with | nil => rfl | cons x r ih => rw [List.filter_cons, ih]; rfl
theorem map_const {α β : Type} (xs : List α) (b : β) : xs.map (fun _ => b) = List.replicate xs.length b := by induction xs with | nil => rfl | cons x r ih => rw [List.map_cons, ih]; rfl
section
variable {P : Program} {w : World} {K : PySem.W.Frag} {mg : Str → Option Value} {base : Heap}
theorem cal_never {x : Str} {st : Stmt} {ps : List Str} {n : Nat} {pre : List PyData → Prop} {T : List PyData → Rt → Prop} (D : Df K mg x st ps) (hp : ∀ ds, ¬ pre ds) : Cal P w K mg base 0 x (spP K n pre T) := by
  obtain ⟨f, fd, F, hm, hb⟩ := D.ex
  exact ⟨f, fd, ps, ⟨fun vs H Q E ⟨_, ds, _, _, _, h, _⟩ => (hp ds h).elim, fun A outer s H args us vs Q E _ _ _ _ ⟨_, ds, _, _, _, h, _⟩ => (hp ds h).elim⟩, hm, F.kp, hb⟩
def tTrue2 (_ : List PyData) (r : Rt) : Prop := r = .d (.bool true)
def pAlike : Nat → List PyData → Prop
  | 0, _ => False
  | n + 1, ds => ∃ x, ds = [x, x] ∧ szD n x
theorem ok__law_alike (D : Df K mg "_law_alike" s__law_alike ["_law_found", "_law_due"]) (B : Bn mg) : ∀ k : Nat, Cal P w K mg base k "_law_alike" (spP K 2 (pAlike k) tTrue2)
  | 0 => cal_never D fun _ h => h
  | k + 1 => by
    have c__law_alike := ok__law_alike D B k
    have nd := sc__law_alike.nd
    refine calP D sc__law_alike rfl fun f cdv A outer st H E hr => ⟨_, (pss_cons (ps_if (pt_cmp (pc_isN (pv 1))) (pss_one (ps_ret (pe_cmp (pc_isN (pv 0)) rfl))) pss_nil)
      (pss_cons (ps_if (pt_val (pe_callB (Kk.call_isi (K := K)) (by rfl) B.isinstance (by decide +kernel) (pa_cons (pv 1) (pa_cons (pe_bltn (v := .ty "bool") (u := .type "bool") (by rfl) B.bool (by decide +kernel) rfl) pa_nil)))) (pss_one (ps_ret (pe_and (pe_callB (Kk.call_isi (K := K)) (by rfl) B.isinstance (by decide +kernel) (pa_cons (pv 0) (pa_cons (pe_bltn (v := .ty "bool") (u := .type "bool") (by rfl) B.bool (by decide +kernel) rfl) pa_nil))) (pe_one (pe_cmpR op_eq (pv 0) (pv 1) (nomark _)))))) pss_nil)
      (pss_cons (ps_if (pt_val (pe_callB (Kk.call_isi (K := K)) (by rfl) B.isinstance (by decide +kernel) (pa_cons (pv 1) (pa_cons (pe_bltn (v := .ty "int") (u := .type "int") (by rfl) B.int (by decide +kernel) rfl) pa_nil)))) (pss_one (ps_ret (pe_and (pe_callB (Kk.call_isi (K := K)) (by rfl) B.isinstance (by decide +kernel) (pa_cons (pv 0) (pa_cons (pe_bltn (v := .ty "int") (u := .type "int") (by rfl) B.int (by decide +kernel) rfl) pa_nil))) (pe_and (pe_not (pe_callB (Kk.call_isi (K := K)) (by rfl) B.isinstance (by decide +kernel) (pa_cons (pv 0) (pa_cons (pe_bltn (v := .ty "bool") (u := .type "bool") (by rfl) B.bool (by decide +kernel) rfl) pa_nil)))) (pe_one (pe_cmpR op_eq (pv 0) (pv 1) (nomark _))))))) pss_nil)
      (pss_cons (ps_if (pt_val (pe_callB (Kk.call_isi (K := K)) (by rfl) B.isinstance (by decide +kernel) (pa_cons (pv 1) (pa_cons (pe_bltn (v := .ty "str") (u := .type "str") (by rfl) B.str (by decide +kernel) rfl) pa_nil)))) (pss_one (ps_ret (pe_and (pe_callB (Kk.call_isi (K := K)) (by rfl) B.isinstance (by decide +kernel) (pa_cons (pv 0) (pa_cons (pe_bltn (v := .ty "str") (u := .type "str") (by rfl) B.str (by decide +kernel) rfl) pa_nil))) (pe_one (pe_cmpR op_eq (pv 0) (pv 1) (nomark _)))))) pss_nil)
      (pss_cons (ps_if (PW.pt (pw_or (pt_cmpR op_ne (pe_callB (Kk.call_isi (K := K)) (by rfl) B.isinstance (by decide +kernel) (pa_cons (pv 1) (pa_cons (pe_bltn (v := .ty "tuple") (u := .type "tuple") (by rfl) B.tuple (by decide +kernel) rfl) pa_nil))) (pe_callB (Kk.call_isi (K := K)) (by rfl) B.isinstance (by decide +kernel) (pa_cons (pv 0) (pa_cons (pe_bltn (v := .ty "tuple") (u := .type "tuple") (by rfl) B.tuple (by decide +kernel) rfl) pa_nil))) (nomark _)) (pw_or1 (pt_cmpR op_ne (pe_callB (Kk.call_isi (K := K)) (by rfl) B.isinstance (by decide +kernel) (pa_cons (pv 1) (pa_cons (pe_bltn (v := .ty "list") (u := .type "list") (by rfl) B.list (by decide +kernel) rfl) pa_nil))) (pe_callB (Kk.call_isi (K := K)) (by rfl) B.isinstance (by decide +kernel) (pa_cons (pv 0) (pa_cons (pe_bltn (v := .ty "list") (u := .type "list") (by rfl) B.list (by decide +kernel) rfl) pa_nil))) (nomark _))))) (pss_one (ps_ret pe_bl)) pss_nil)
      (pss_cons (ps_if (pt_cmpR op_ne (pe_callB (Kk.call_len_seq (K := K)) (by rfl) B.len (by decide +kernel) (pa_cons (pv 0) pa_nil)) (pe_callB (Kk.call_len_seq (K := K)) (by rfl) B.len (by decide +kernel) (pa_cons (pv 1) pa_nil)) (nomark _)) (pss_one (ps_ret pe_bl)) pss_nil)
      (pss_one (ps_ret (pe_callB (Kk.cr_all (K := K) rfl) (by rfl) B.all (by decide +kernel) (pa_cons (pe_lc (own := [("_law_k", 2)]) rfl nd (pi_range1 (by rfl) B.range (pa_cons (pe_callB (Kk.call_len_seq (K := K)) (by rfl) B.len (by decide +kernel) (pa_cons (pv 1) pa_nil)) pa_nil)) (blkOk_by (by kernel_rfl)) (fun _ _ _ _ _ => (pg_name (i := 2) nd rfl (by first | exact Or.inl rfl | exact Or.inr rfl))) (fun _ _ _ _ _ => pts_nil) (fun _ _ _ _ _ => (Dl.pe_c c__law_alike hr (pa_cons (pe_ix (Kk.ix_both (K := K)) (pv 0) (pv 2) (fun _ _ => rfl)) (pa_cons (pe_ix (Kk.ix_both (K := K)) (pv 1) (pv 2) (fun _ _ => rfl)) pa_nil)) (Nat.le_refl _)))) pa_nil)))))))))), fun ds hn hp => ?_⟩
    obtain ⟨x, rfl, hx⟩ := hp
    show ExS K _ _ [.pu x, .pu x, .non]
    have flat : flatD x = true ∨ ∃ k2 ds, k = k2 + 1 ∧ (x = .list ds ∨ x = .tuple ds) ∧ ds.length ≤ 100000 ∧ ∀ x ∈ ds, szD k2 x := by
      cases k with
      | zero => exact .inl hx
      | succ k2 =>
        rcases hx with h | ⟨ds, h1, h2, h3⟩
        · exact .inl h
        · exact .inr ⟨k2, ds, rfl, h1, h2, h3⟩
    rcases flat with h | ⟨k2, ds, rfl, h1, h2, h3⟩
    · cases x with
      | none => walk_at "kr"; exact rt_d rfl
      | bool b =>
        cases b <;>
        · walk_at "kr"
          exact rt_d rfl
      | int i =>
        walk_at "kr"
        exact rt_d (by rw [decide_eq_true rfl]; rfl)
      | str s =>
        walk_at "kr"
        exact rt_d (by rw [decide_eq_true rfl]; rfl)
      | list _ => cases h
      | tuple _ => cases h
      | dict _ => cases h
    · rcases h1 with rfl | rfl
      · walk_at "kr"
        rw [decide_eq_true rfl]
        walk_at "kr"
        refine ev_fR (fun _ => true) (fun _ => .bool true) ?_
        walk_at "kr"
        refine ⟨wip1 rfl junk_non, Nat.le_of_ble_eq_true rfl, h2, fun a ha => ?_, ?_⟩
        · unfold Turn1C
          simp only [List.set_cons_zero, List.set_cons_succ]
          have hat : atI ds (a : Int) = some ds[a] := atI_nat' (List.getElem?_eq_getElem ha)
          walk_at "kr"
          refine ⟨rfl, rfl, fun _ => ?_⟩
          refine ed_of (ev_call ?_)
          walk_at "kr"
          refine ⟨_, _, _, .inl den_pu, rfl, hat, ?_⟩
          walk_at "kr"
          refine ⟨_, _, _, .inl den_pu, rfl, hat, ?_⟩
          walk_at "kr"
          refine ⟨rfl, ⟨ds[a], rfl, h3 _ (List.getElem_mem ha)⟩, fun r hr => ?_⟩
          cases (show r = .d (.bool true) from hr)
          exact ⟨_, frz_pu, rfl, rfl⟩
        · rw [filter_yes, map_const, List.length_range]
          refine ⟨List.replicate ds.length true, ?_, rt_d (by rw [List.all_replicate]; cases ds.length <;> rfl)⟩
          rw [List.map_replicate]
          exact den_ow
      · walk_at "kr"
        rw [decide_eq_true rfl]
        walk_at "kr"
        refine ev_fR (fun _ => true) (fun _ => .bool true) ?_
        walk_at "kr"
        refine ⟨wip1 rfl junk_non, Nat.le_of_ble_eq_true rfl, h2, fun a ha => ?_, ?_⟩
        · unfold Turn1C
          simp only [List.set_cons_zero, List.set_cons_succ]
          have hat : atI ds (a : Int) = some ds[a] := atI_nat' (List.getElem?_eq_getElem ha)
          walk_at "kr"
          refine ⟨rfl, rfl, fun _ => ?_⟩
          refine ed_of (ev_call ?_)
          walk_at "kr"
          refine ⟨_, _, _, .inr rfl, rfl, hat, ?_⟩
          walk_at "kr"
          refine ⟨_, _, _, .inr rfl, rfl, hat, ?_⟩
          walk_at "kr"
          refine ⟨rfl, ⟨ds[a], rfl, h3 _ (List.getElem_mem ha)⟩, fun r hr => ?_⟩
          cases (show r = .d (.bool true) from hr)
          exact ⟨_, frz_pu, rfl, rfl⟩
        · rw [filter_yes, map_const, List.length_range]
          refine ⟨List.replicate ds.length true, ?_, rt_d (by rw [List.all_replicate]; cases ds.length <;> rfl)⟩
          rw [List.map_replicate]
          exact den_ow
end
end Kr

local macro_rules | `(tactic| walk_at "krd") => `(tactic| (refine Dl.ev_callD rfl ?_; walk_at "kr"; refine ⟨rfl, rfl, ?_, ?_⟩))
namespace Kr
open PySem PySem.Spec PyProof.Rows L2 Dl
open Evl (Ex)
theorem getD_mem {α : Type} {xs : List α} {i : Nat} (h : i < xs.length) : xs[i]? = some xs[i] := List.getElem?_eq_getElem h
theorem er_mapD : ∀ (xs : List Int) (i : Nat), (xs.eraseIdx i).map PyData.int = (xs.map PyData.int).eraseIdx i
  | [], _ => rfl
  | _ :: _, 0 => rfl
  | x :: r, i + 1 => by
    show _ = PyData.int x :: (r.map PyData.int).eraseIdx i
    rw [← er_mapD r i]
    rfl
theorem perm_erase {α : Type} : ∀ {xs : List α} {i : Nat} {a : α}, xs[i]? = some a → (a :: xs.eraseIdx i).Perm xs
  | x :: r, 0, a, h => by
    cases h
    exact .refl _
  | x :: r, i + 1, a, h => ((List.Perm.swap x a _).trans (.cons x (perm_erase (xs := r) (i := i) h)))
section
variable {P : Program} {w : World} {K : PySem.W.Frag} {mg : Str → Option Value} {base : Heap}
def pMixed (ds : List PyData) : Prop := ∃ ns : List Int, ds = [.list (ns.map PyData.int)] ∧ ns.length ≤ 1000
def tMixed (ds : List PyData) (r : Rt) : Prop := ∀ ns : List Int, ds = [.list (ns.map PyData.int)] → ∃ ms : List Int, r = .l (ms.map PyData.int) ∧ ms.Perm ns
theorem intsD_inj {a b : List Int} (h : a.map PyData.int = b.map PyData.int) : a = b := List.map_inj_right (fun x y h => PyData.int.inj h) |>.mp h
theorem ok__law_mixed (D : Df K mg "_law_mixed" s__law_mixed ["_law_d", "_law_row"]) (B : Bn mg) (c__law_off : Cal P w K mg base 1 "_law_off" (spDi K 1 pOff tOff)) : Cal P w K mg base 2 "_law_mixed" (spDi K 1 pMixed tMixed) := by
  have nd := sc__law_mixed.nd
  refine calDi D sc__law_mixed rfl fun f cdv A outer st H E hr => ⟨_, (pss_cons (ps_set (i := 2) nd rfl (Or.inl rfl) (pe_callTy (Kk.call_list_of (K := K)) (by rfl) B.list (by decide +kernel) (pa_cons (pv 1) pa_nil)))
      (pss_cons (ps_set (i := 3) nd rfl (Or.inl rfl) (pe_lst pa_nil))
      (pss_cons (ps_while PassesOwn.never (pt_cmpR (Kk.op_neD (K := K) hr.units) (pv 2) (pe_lst pa_nil) (nomark _)) (pss_one (ps_expr (Kk.pe_bm (K := K) PySem.F.plainAttrs_list PySem.F.slot_list_append PySem.F.type_list_append mt_append (pv 3) (pa_cons (Kk.pe_bm (K := K) PySem.F.plainAttrs_list PySem.F.slot_list_pop PySem.F.type_list_pop mt_popAt (pv 2) (pa_cons (Dl.pe_c c__law_off hr (pa_cons (pv 0) (pa_cons (pe_callB (Kk.call_len_seq (K := K)) (by rfl) B.len (by decide +kernel) (pa_cons (pv 2) pa_nil)) pa_nil))) pa_nil)) pa_nil)))))
      (pss_one (ps_ret (pv 3)))))), fun d ds hn hp => ?_⟩
  obtain ⟨ns, rfl, hl⟩ := hp
  show ExS K _ _ [.ow (RDi d), .pu (.list (ns.map PyData.int)), .non, .non]
  walk_at "kr"
  refine xs_while (fun m δ' => ∃ left found : List Int, δ' = [.ow (RDi d), .pu (.list (ns.map PyData.int)), .ow (RL K (left.map PyData.int)), .ow (RL K (found.map PyData.int))] ∧ (found ++ left).Perm ns ∧ m = left.length) ns.length ⟨ns, [], rfl, .refl _, rfl⟩ ?_
  rintro m _ ⟨left, found, rfl, hperm, rfl⟩
  have hlen := hperm.length_eq
  rw [List.length_append] at hlen
  walk_at "kr"
  refine ⟨shaped_ints _, ?_⟩
  walk_at "kr"
  cases hleft : left with
  | nil =>
    walk_at "kr"
    refine ⟨rt_al rfl fun ns2 e => ⟨found, rfl, ?_⟩, rfl, fun z => nomatch z⟩
    have e2 : ns = ns2 := intsD_inj (PyData.list.inj (List.head_eq_of_cons_eq e))
    subst hleft
    rw [List.append_nil] at hperm
    exact e2 ▸ hperm
  | cons l0 lr =>
    rw [← hleft]
    have hpos : 0 < left.length := by rw [hleft]; exact Nat.succ_pos _
    refine ifT (by rw [hleft]; rfl) ?_
    walk_at "kr"
    refine ev_popAt rfl ?_
    walk_at "kr"
    rw [List.length_map]
    refine ⟨rfl, _, rfl, by omega, by omega, fun x hx => ?_⟩
    have hx' : x < left.length := by omega
    refine ⟨_, rfl, x, .int left[x], rfl, by rw [List.getElem?_map, getD_mem hx']; rfl, by rw [List.length_map]; omega, ?_⟩
    walk_at "kr"
    refine ⟨by rw [List.length_map]; omega, ?_⟩
    walk_at "kr"
    refine ⟨(left.eraseIdx x).length, ?_, left.eraseIdx x, found ++ [left[x]], ?_, ?_, rfl⟩
    · rw [List.length_eraseIdx_of_lt hx']
      omega
    · rw [List.map_append, er_mapD]
      rfl
    · refine List.Perm.trans ?_ hperm
      rw [List.append_assoc]
      exact .append_left _ (perm_erase (getD_mem hx'))
def pNo (ds : List PyData) : Prop := ds = []
structure TimesOk (a b c s t : Int) : Prop where
  takes : 1 ≤ a ∧ a ≤ 20
  ends : 1 ≤ b ∧ b ≤ 20
  waits : 1 ≤ c ∧ c ≤ 20
  stays : 1 ≤ s ∧ s ≤ 50
  tries : 1 ≤ t ∧ t ≤ 9
def tTimes (_ : List PyData) (r : Rt) : Prop := ∃ a b c s t : Int, r = .d (.tuple [.int a, .int b, .int c, .int s, .int t]) ∧ TimesOk a b c s t
theorem ok__law_times (D : Df K mg "_law_times" s__law_times ["_law_d"]) (B : Bn mg) (c__law_off : Cal P w K mg base 1 "_law_off" (spDi K 1 pOff tOff)) : Cal P w K mg base 2 "_law_times" (spDi K 0 pNo tTimes) := by
  have nd := sc__law_times.nd
  refine calDi D sc__law_times rfl fun f cdv A outer st H E hr => ⟨_, (pss_cons (ps_set (i := 1) nd rfl (Or.inl rfl) (pe_ix (Kk.ix_list (K := K)) (pe_lst (pa_cons pe_int (pa_cons pe_int pa_nil))) (pe_callTy call_int1 (by rfl) B.int (by decide +kernel) (pa_cons (pe_cmpR op_eq (Dl.pe_c c__law_off hr (pa_cons (pv 0) (pa_cons pe_int pa_nil))) pe_int (nomark _)) pa_nil)) (fun _ _ => rfl)))
      (pss_cons (ps_set (i := 2) nd rfl (Or.inl rfl) (pe_ix (Kk.ix_list (K := K)) (pe_lst (pa_cons pe_int (pa_cons pe_int (pa_cons pe_int (pa_cons (pe_op op_add pe_int (Dl.pe_c c__law_off hr (pa_cons (pv 0) (pa_cons pe_int pa_nil)))) pa_nil))))) (Dl.pe_c c__law_off hr (pa_cons (pv 0) (pa_cons pe_int pa_nil))) (fun _ _ => rfl)))
      (pss_cons (ps_set (i := 3) nd rfl (Or.inl rfl) (pe_ix (Kk.ix_list (K := K)) (pe_lst (pa_cons (pe_op op_add pe_int (Dl.pe_c c__law_off hr (pa_cons (pv 0) (pa_cons pe_int pa_nil)))) (pa_cons (pe_op op_add pe_int (Dl.pe_c c__law_off hr (pa_cons (pv 0) (pa_cons pe_int pa_nil)))) pa_nil))) (pe_callTy call_int1 (by rfl) B.int (by decide +kernel) (pa_cons (pe_cmpR op_eq (Dl.pe_c c__law_off hr (pa_cons (pv 0) (pa_cons pe_int pa_nil))) pe_int (nomark _)) pa_nil)) (fun _ _ => rfl)))
      (pss_one (ps_ret (pe_tup (pa_cons (pe_op op_add pe_int (Dl.pe_c c__law_off hr (pa_cons (pv 0) (pa_cons (pv 1) pa_nil)))) (pa_cons (pe_op op_add pe_int (Dl.pe_c c__law_off hr (pa_cons (pv 0) (pa_cons (pv 1) pa_nil)))) (pa_cons (pe_op op_add pe_int (Dl.pe_c c__law_off hr (pa_cons (pv 0) (pa_cons (pv 1) pa_nil)))) (pa_cons (pv 3) (pa_cons (pv 2) pa_nil))))))))))), fun d ds hn hp => ?_⟩
  cases (show ds = [] from hp)
  show ExS K _ _ [.ow (RDi d), .non, .non, .non]
  have two : ∀ (b : Bool) (x y : Int), ∃ z, atI [PyData.int x, .int y] (if b = true then 1 else 0) = some (.int z) ∧ (z = x ∨ z = y) := fun b x y => by
    cases b
    · exact ⟨x, rfl, .inl rfl⟩
    · exact ⟨y, rfl, .inr rfl⟩
  walk_at "kr"
  intro x1 hx1
  walk_at "kr"
  obtain ⟨few, e1, hfew⟩ := two (decide ((x1 : Int) = 0)) 3 20
  refine ⟨_, _, _, den_ow, rfl, e1, ?_⟩
  walk_at "kr"
  intro x2 hx2
  walk_at "kr"
  intro x3 hx3
  walk_at "kr"
  have e2 : ∃ z, atI [PyData.int 2, .int 3, .int 9, .int (1 + (x2 : Int))] (x3 : Int) = some (.int z) ∧ 1 ≤ z ∧ z ≤ 9 := by
    have h : x3 = 0 ∨ x3 = 1 ∨ x3 = 2 ∨ x3 = 3 := by omega
    rcases h with rfl | rfl | rfl | rfl
    · exact ⟨2, rfl, by decide, by decide⟩
    · exact ⟨3, rfl, by decide, by decide⟩
    · exact ⟨9, rfl, by decide, by decide⟩
    · exact ⟨1 + (x2 : Int), rfl, by omega, by omega⟩
  obtain ⟨tries, e2, ht⟩ := e2
  refine ⟨_, _, _, den_ow, rfl, e2, ?_⟩
  walk_at "kr"
  intro x4 hx4
  walk_at "kr"
  intro x5 hx5
  walk_at "kr"
  intro x6 hx6
  walk_at "kr"
  obtain ⟨stays, e3, hs⟩ := two (decide ((x6 : Int) = 0)) (1 + (x4 : Int)) (1 + (x5 : Int))
  refine ⟨_, _, _, den_ow, rfl, e3, ?_⟩
  walk_at "kr"
  refine ⟨rfl, _, rfl, by omega, by omega, fun x7 hx7 => ?_⟩
  walk_at "kr"
  refine ⟨rfl, _, rfl, by omega, by omega, fun x8 hx8 => ?_⟩
  walk_at "kr"
  refine ⟨rfl, _, rfl, by omega, by omega, fun x9 hx9 => ?_⟩
  walk_at "kr"
  refine ⟨rt_d ⟨_, _, _, _, _, rfl, ⟨by omega, by omega⟩, ⟨by omega, by omega⟩, ⟨by omega, by omega⟩, ⟨by omega, by omega⟩, ht⟩, rfl, fun z => nomatch z⟩
end
end Kr

namespace Kr
open PySem PySem.Spec PyProof.Rows L2 Dl
open Evl (Ex)
theorem rgI_iz (n : Nat) : rgI 0 (n : Int) = iz (List.range n) := by
  unfold rgI iz
  rw [Int.sub_zero, Int.toNat_natCast]
  exact List.map_congr_left fun i _ => Int.zero_add _
theorem perm_iz {ms : List Int} {ns : List Nat} (h : ms.Perm (iz ns)) : ∃ o : List Nat, ms = iz o ∧ o.Perm ns := by
  refine ⟨ms.map Int.toNat, ?_, ?_⟩
  · unfold iz
    rw [List.map_map]
    have : ∀ x ∈ ms, ((fun (n : Nat) => (n : Int)) ∘ Int.toNat) x = x := fun x hx => by
      obtain ⟨y, rfl, _⟩ := iz_ex (h.mem_iff.mp hx)
      show ((Int.toNat (y : Int) : Nat) : Int) = _
      rw [Int.toNat_natCast]
    rw [List.map_congr_left this]
    exact (List.map_id _).symm
  · have := h.map Int.toNat
    have e : (iz ns).map Int.toNat = ns := by
      unfold iz
      rw [List.map_map]
      exact (List.map_congr_left (fun x _ => Int.toNat_natCast x)).trans (List.map_id _)
    rwa [e] at this
theorem nodup_len' : ∀ (l o : List Nat), l.Nodup → (∀ x ∈ l, x ∈ o) → l.length ≤ o.length
  | [], _, _, _ => Nat.zero_le _
  | a :: r, o, hd, h => by
    obtain ⟨h1, h2⟩ := List.nodup_cons.mp hd
    have := nodup_len' r (o.erase a) h2 fun x hx => (List.mem_erase_of_ne (by intro e; subst e; exact h1 hx)).mpr (h x (List.mem_cons_of_mem _ hx))
    have ha := h a (List.mem_cons_self ..)
    rw [List.length_erase_of_mem ha] at this
    have := List.length_pos_of_mem ha
    rw [List.length_cons]
    omega
def tupD (l : List Nat) : PyData := .tuple ((iz l).map PyData.int)
/-- wants told of so far: each service wants those ahead of it in a row o -/
def Told (o : List Nat) (ws : List (List Nat)) : Prop := ws.length = o.length ∧ ∀ i l, ws[i]? = some l → l.Pairwise (· < ·) ∧ ∀ x ∈ l, x < o.length ∧ o.idxOf x < o.idxOf i
structure Row (o : List Nat) (n : Nat) : Prop where
  perm : o.Perm (List.range n)
theorem Row.len {o : List Nat} {n : Nat} (h : Row o n) : o.length = n := by rw [h.perm.length_eq, List.length_range]
theorem Row.nd {o : List Nat} {n : Nat} (h : Row o n) : o.Nodup := h.perm.nodup_iff.mpr List.nodup_range
theorem Row.lt {o : List Nat} {n : Nat} (h : Row o n) {x : Nat} (hx : x ∈ o) : x < n := List.mem_range.mp (h.perm.mem_iff.mp hx)
theorem Row.at {o : List Nat} {n k : Nat} (h : Row o n) (hk : k < o.length) : o.idxOf o[k] = k := h.nd.idxOf_getElem k hk
/-- some of those ahead of place q -/
def Some_ (o : List Nat) (q : Nat) (l : List Nat) : Prop := l.Nodup ∧ ∀ x ∈ l, ∃ k, k < q ∧ o[k]? = some x
theorem Some_.nil {o : List Nat} {q : Nat} : Some_ o q [] := ⟨List.nodup_nil, fun x hx => nomatch hx⟩
theorem Some_.snoc {o : List Nat} {k : Nat} {l : List Nat} (hn : o.Nodup) (h : Some_ o k l) (hk : k < o.length) : Some_ o (k + 1) (l ++ [o[k]]) := by
  refine ⟨?_, fun x hx => ?_⟩
  · rw [List.nodup_append]
    refine ⟨h.1, List.nodup_cons.mpr ⟨by simp, List.nodup_nil⟩, fun a ha b hb e => ?_⟩
    rw [List.mem_singleton.mp hb] at e
    obtain ⟨j, hj, ho⟩ := h.2 a ha
    obtain ⟨hj2, e2⟩ := List.getElem?_eq_some_iff.mp ho
    have := hn.idxOf_getElem j hj2
    rw [e2, e, hn.idxOf_getElem k hk] at this
    omega
  · rcases List.mem_append.mp hx with hx | hx
    · obtain ⟨j, hj, ho⟩ := h.2 x hx
      exact ⟨j, by omega, ho⟩
    · rw [List.mem_singleton.mp hx]
      exact ⟨k, by omega, List.getElem?_eq_getElem hk⟩
theorem Some_.up {o : List Nat} {k k2 : Nat} {l : List Nat} (h : Some_ o k l) (l2 : k ≤ k2) : Some_ o k2 l := ⟨h.1, fun x hx => by
  obtain ⟨j, hj, ho⟩ := h.2 x hx
  exact ⟨j, by omega, ho⟩⟩
theorem Some_.one {o : List Nat} {k q : Nat} (hk : k < o.length) (hq : k < q) : Some_ o q [o[k]] := ⟨List.nodup_cons.mpr ⟨by simp, List.nodup_nil⟩, fun x hx => by
  rw [List.mem_singleton.mp hx]
  exact ⟨k, hq, List.getElem?_eq_getElem hk⟩⟩
theorem Some_.take {o : List Nat} {q : Nat} (hn : o.Nodup) : Some_ o q (o.take q) := ⟨hn.sublist (List.take_sublist q o), fun x hx => by
  obtain ⟨k, hk⟩ := List.mem_iff_getElem?.mp hx
  rw [List.getElem?_take] at hk
  split at hk
  · exact ⟨k, by assumption, hk⟩
  · cases hk⟩
theorem Some_.len {o : List Nat} {q : Nat} {l : List Nat} (h : Some_ o q l) : l.length ≤ o.length := by
  have := nodup_len' l o h.1 fun x hx => by
    obtain ⟨k, _, hk⟩ := h.2 x hx
    exact List.mem_of_getElem? hk
  exact this
theorem rise_of {l : List Nat} (h : (iz l).Pairwise (· ≤ ·)) (hn : l.Nodup) : l.Pairwise (· < ·) := by
  unfold iz at h
  rw [List.pairwise_map] at h
  exact (h.and hn).imp fun ⟨a, b⟩ => by omega
theorem atIz {o : List Nat} {k : Nat} (hk : k < o.length) : atI ((iz o).map PyData.int) (k : Int) = some (.int (o[k] : Int)) := atI_nat' (by
  unfold iz
  rw [List.map_map, List.getElem?_map, List.getElem?_eq_getElem hk]
  rfl)
theorem cut_take {ds : List PyData} {q : Nat} (h : q ≤ ds.length) : Dl.cutD ds none (some (q : Int)) = ds.take q := by
  unfold Dl.cutD
  rw [HT.sIx_nat, HT.sIx_none, Nat.min_eq_left h]
  rfl
theorem Told.set {o : List Nat} {n q : Nat} {ws : List (List Nat)} {l : List Nat} (hr : Row o n) (h : Told o ws) (hq : q < o.length) (hl : l.Pairwise (· < ·)) (hs : ∀ x ∈ l, ∃ k, k < q ∧ o[k]? = some x) : Told o (ws.set o[q] l) := by
  refine ⟨by rw [List.length_set]; exact h.1, fun i l' hi => ?_⟩
  by_cases e : o[q] = i
  · subst e
    have hlt : o[q] < ws.length := by rw [h.1, hr.len]; exact hr.lt (List.getElem_mem hq)
    rw [List.getElem?_set_self hlt] at hi
    cases hi
    refine ⟨hl, fun x hx => ?_⟩
    obtain ⟨k, hk, hko⟩ := hs x hx
    obtain ⟨hk2, rfl⟩ := List.getElem?_eq_some_iff.mp hko
    refine ⟨by rw [hr.len]; exact hr.lt (List.getElem_mem hk2), ?_⟩
    rw [hr.at hk2, hr.at hq]
    exact hk
  · rw [List.getElem?_set_ne e] at hi
    exact h.2 i l' hi
theorem told_nil {o : List Nat} {n : Nat} (hr : Row o n) : Told o (List.replicate n []) := by
  refine ⟨by rw [List.length_replicate, hr.len], fun i l hi => ?_⟩
  obtain ⟨h1, h2⟩ := List.getElem?_eq_some_iff.mp hi
  rw [List.getElem_replicate] at h2
  subst h2
  exact ⟨List.Pairwise.nil, fun x hx => nomatch hx⟩
theorem told_good {o : List Nat} {n : Nat} {ws : List (List Nat)} {p : Pl} (hr : Row o n) (h : Told o ws) (h1 : 1 ≤ n) (h12 : n ≤ 12) (hp : p.length = n) (hs : ∀ (i : Nat) (s : Svc), p[i]? = some s → ws[i]? = some s.wants ∧ TimesOk s.takes s.ends s.waits s.stays s.tries) : Good p := by
  refine ⟨⟨by omega, by omega, fun i s hi => ?_⟩, fun i => o.idxOf i, fun i x hx => ?_⟩
  · obtain ⟨hw, ht⟩ := hs i s hi
    obtain ⟨a, b⟩ := h.2 i _ hw
    refine ⟨a, fun x hx => ?_, ht.takes, ht.ends, ht.waits, ht.stays, ht.tries⟩
    obtain ⟨c, d⟩ := b x hx
    rw [hr.len] at c
    exact ⟨by omega, fun e => by rw [e] at d; omega⟩
  · unfold wantsOf at hx
    cases hi : p[i]? with
    | none => rw [hi] at hx; cases hx
    | some s =>
      rw [hi] at hx
      exact (h.2 i _ (hs i s hi).1).2 x hx |>.2
section
variable {P : Program} {w : World} {K : PySem.W.Frag} {mg : Str → Option Value} {base : Heap}
def pPlan (ds : List PyData) : Prop := ∃ k : Nat, ds = [.int (k : Int)] ∧ 1 ≤ k ∧ k ≤ 12
def tPlan (ds : List PyData) (r : Rt) : Prop := ∀ k : Nat, ds = [.int (k : Int)] → ∃ p : Pl, r = .d (planD p) ∧ Good p ∧ p.length ≤ k
theorem ok__law_plan (D : Df K mg "_law_plan" s__law_plan ["_law_d", "_law_limit"]) (B : Bn mg) (c__law_off : Cal P w K mg base 1 "_law_off" (spDi K 1 pOff tOff)) (c__law_mixed : Cal P w K mg base 2 "_law_mixed" (spDi K 1 pMixed tMixed)) (c__law_times : Cal P w K mg base 2 "_law_times" (spDi K 0 pNo tTimes)) : Cal P w K mg base 3 "_law_plan" (spDi K 1 pPlan tPlan) := by
  have nd := sc__law_plan.nd
  refine calDi D sc__law_plan rfl fun f cdv A outer st H E hr => ⟨_, (pss_cons (ps_set (i := 2) nd rfl (Or.inl rfl) (pe_op op_add pe_int (Dl.pe_c c__law_off hr (pa_cons (pv 0) (pa_cons (pv 1) pa_nil)))))
      (pss_cons (ps_set (i := 3) nd rfl (Or.inr rfl) (Dl.pe_c c__law_mixed hr (pa_cons (pv 0) (pa_cons (pe_listRg rfl (by rfl) B.list (prg_1 (by rfl) B.range (pv 2))) pa_nil))))
      (pss_cons (ps_set (i := 4) nd rfl (Or.inl rfl) (Dl.pe_c c__law_off hr (pa_cons (pv 0) (pa_cons pe_int pa_nil))))
      (pss_cons (ps_set (i := 5) nd rfl (Or.inr rfl) (pe_ix (Kk.ix_list (K := K)) (pe_lst (pa_cons pe_int (pa_cons pe_int (pa_cons pe_int (pa_cons pe_int (pa_cons pe_int (pa_cons pe_int pa_nil))))))) (pv 4) (fun _ _ => rfl)))
      (pss_cons (ps_set (i := 6) nd rfl (Or.inr rfl) (pe_op op_rep (pe_lst (pa_cons (pe_tup pa_nil) pa_nil)) (pv 2)))
      (pss_cons (ps_for PassesOwn.never rfl (pi_range2 (by rfl) B.range (pa_cons pe_int (pa_cons (pv 2) pa_nil))) (pg_name (i := 7) nd rfl (Or.inl rfl)) (pss_cons (ps_setLc (own := [("_law_k", 9)]) (i := 8) rfl nd rfl rfl (sw_true rfl rfl rfl (by decide +kernel)) (pi_range1 (by rfl) B.range (pa_cons (pv 7) pa_nil)) (blkOk_by (by kernel_rfl)) (fun _ _ _ _ _ => (pg_name (i := 9) nd rfl (by first | exact Or.inl rfl | exact Or.inr rfl))) (fun _ _ _ _ _ => (pts_one (pt_cmpR op_eq (Dl.pe_c c__law_off hr (pa_cons (pv 0) (pa_cons (pv 5) pa_nil))) pe_int (nomark _)))) (fun _ _ _ _ _ => (pe_ix (Kk.ix_list (K := K)) (pv 3) (pv 9) (fun _ _ => rfl))))
      (pss_cons (ps_if (pt_cmpR op_eq (pv 4) pe_int (nomark _)) (pss_one (ps_set (i := 8) nd rfl (Or.inl rfl) (pe_lst (pa_cons (pe_ix (Kk.ix_list (K := K)) (pv 3) (pe_op op_sub (pv 7) pe_int) (fun _ _ => rfl)) pa_nil)))) pss_nil)
      (pss_cons (ps_if (pt_cmpR op_eq (pv 4) pe_int (nomark _)) (pss_one (ps_set (i := 8) nd rfl (Or.inl rfl) (pe_lst (pa_cons (pe_ix (Kk.ix_list (K := K)) (pv 3) (Dl.pe_c c__law_off hr (pa_cons (pv 0) (pa_cons (pv 7) pa_nil))) (fun _ _ => rfl)) pa_nil)))) pss_nil)
      (pss_cons (ps_if (pt_cmpR op_eq (pv 4) pe_int (nomark _)) (pss_one (ps_set (i := 8) nd rfl (Or.inl rfl) (pe_ifExp (pt_cmpR op_eq (pv 7) (pe_op op_sub (pv 2) pe_int) (nomark _)) (pe_slice (Kk.sl_list (K := K)) (pv 3) po_none (po_some (pv 7))) (pe_lst pa_nil)))) pss_nil)
      (pss_one (ps_asg (Kk.pe_tupleOf (K := K) (by rfl) B.tuple (pe_callB (Kk.cr_sortedI (K := K)) (by rfl) B.sorted (by decide +kernel) (pa_cons (pv 8) pa_nil))) (pg_sub (pv 6) (pe_ix (Kk.ix_list (K := K)) (pv 3) (pv 7) (fun _ _ => rfl)) set_list))))))))
      (pss_one (ps_ret (Kk.pe_tupleOf (K := K) (by rfl) B.tuple (pe_lc (own := [("_law_number", 10)]) rfl nd (pi_range1 (by rfl) B.range (pa_cons (pv 2) pa_nil)) (blkOk_by (by kernel_rfl)) (fun _ _ _ _ _ => (pg_name (i := 10) nd rfl (by first | exact Or.inl rfl | exact Or.inr rfl))) (fun _ _ _ _ _ => pts_nil) (fun _ _ _ _ _ => (pe_op (Kk.op_catA (K := K)) (pe_tup (pa_cons (pe_ix (Kk.ix_list (K := K)) (pv 6) (pv 10) (fun _ _ => rfl)) pa_nil)) (Dl.pe_c c__law_times hr (pa_cons (pv 0) pa_nil)))))))))))))), fun d ds hn hp => ?_⟩
  obtain ⟨lim, rfl, hl1, hl2⟩ := hp
  show ExS K _ _ [.ow (RDi d), .pu (.int lim), .non, .non, .non, .non, .non, .non, .non, .non, .non]
  walk_at "kr"
  refine ⟨rfl, _, rfl, by omega, by omega, fun x1 hx1 => ?_⟩
  walk_at "kr"
  have en : (1 + (x1 : Int)) = ((1 + x1 : Nat) : Int) := by omega
  have hn1 : 1 ≤ 1 + x1 := by omega
  have hn2 : 1 + x1 ≤ lim := by omega
  rw [en]
  generalize 1 + x1 = n at hn1 hn2
  clear en hx1 x1
  refine ev_callD rfl ?_
  walk_at "kr"
  refine ⟨by omega, by omega, ?_⟩
  rw [rgI_iz]
  walk_at "kr"
  refine ⟨rfl, rfl, ⟨_, rfl, by rw [iz_len, List.length_range]; omega⟩, fun r hr => ?_⟩
  obtain ⟨ms, rfl, hms⟩ := hr _ rfl
  obtain ⟨o, rfl, ho⟩ := perm_iz hms
  have hrow : Row o n := ⟨ho⟩
  clear hr hms ho
  have hol := hrow.len
  walk_at "kr"
  intro kind hkind
  walk_at "kr"
  have e1 : ∃ z, atI [PyData.int 4, .int 4, .int 4, .int 4, .int 2, .int 1] (kind : Int) = some (.int z) ∧ 1 ≤ z ∧ z ≤ 4 := by
    have h : kind = 0 ∨ kind = 1 ∨ kind = 2 ∨ kind = 3 ∨ kind = 4 ∨ kind = 5 := by omega
    rcases h with rfl | rfl | rfl | rfl | rfl | rfl
    · exact ⟨4, rfl, by decide, by decide⟩
    · exact ⟨4, rfl, by decide, by decide⟩
    · exact ⟨4, rfl, by decide, by decide⟩
    · exact ⟨4, rfl, by decide, by decide⟩
    · exact ⟨2, rfl, by decide, by decide⟩
    · exact ⟨1, rfl, by decide, by decide⟩
  obtain ⟨often, e1, hof1, hof2⟩ := e1
  refine ⟨_, _, _, den_ow, rfl, e1, ?_⟩
  walk_at "kr"
  refine ⟨by omega, by omega, by show 1 * _ ≤ _; omega, ?_⟩
  have ew : (List.replicate ((n : Int)).toNat [PyData.tuple []]).flatten = (List.replicate n ([] : List Nat)).map tupD := by
    rw [Int.toNat_natCast]
    clear hol hrow hn1 hn2
    induction n with
    | zero => rfl
    | succ n ih =>
      rw [List.replicate_succ, List.flatten_cons, ih]
      rfl
  rw [ew]
  walk_at "kr"
  refine xs_forR2 ?_
  walk_at "kr"
  refine ⟨⟨by decide, by decide, by omega, by omega⟩, fun _ δ' => ∃ ws s7 s8, δ' = [.ow (RDi d), .pu (.int lim), .pu (.int n), .ow (RL K ((iz o).map PyData.int)), .pu (.int kind), .pu (.int often), .ow (RL K (ws.map tupD)), s7, s8, .non, .non] ∧ Told o ws, ⟨_, _, _, rfl, told_nil hrow⟩, fun i δ' hi => ?_, fun δ' => ?_⟩
  · rintro ⟨ws, s7, s8, rfl, hws⟩
    have eq1 : (1 + (i : Int)) = ((1 + i : Nat) : Int) := by omega
    have hq : 1 + i < n := by omega
    have hq1 : 1 ≤ 1 + i := by omega
    rw [eq1]
    generalize 1 + i = q at hq hq1
    clear eq1 hi
    have hqo : q < o.length := by omega
    refine turn1_name (Nat.le_of_ble_eq_true rfl) ?_
    refine xs_seq ?_
    dsimp only
    refine xs_mid (fun δ' => ∃ l : List Nat, δ' = [.ow (RDi d), .pu (.int lim), .pu (.int n), .ow (RL K ((iz o).map PyData.int)), .pu (.int kind), .pu (.int often), .ow (RL K (ws.map tupD)), .pu (.int q), .ow (RL K ((iz l).map PyData.int)), .non, .non] ∧ Some_ o q l) ?_ ?_
    · walk_at "kr"
      refine ev_lcR1 ?_
      walk_at "kr"
      refine ⟨by omega, by omega, wip1 rfl junk_non, fun k acc => ∃ l : List Nat, acc = (iz l).map PyData.int ∧ Some_ o k l, ⟨[], rfl, .nil⟩, ?_, ?_⟩
      · rintro k _ hk ⟨l, rfl, hl⟩
        have hk' : k < o.length := by omega
        refine turnC1 (Nat.le_of_ble_eq_true rfl) ?_
        simp only [List.set_cons_zero, List.set_cons_succ]
        walk_at "kr"
        refine ⟨rfl, _, rfl, by omega, by omega, fun x hx => ?_⟩
        walk_at "kr"
        refine ⟨rfl, ifB (fun h => ?_) (fun h => ?_)⟩
        · walk_at "kr"
          refine ⟨_, _, _, den_al rfl, rfl, atIz hk', ?_⟩
          refine ⟨_, frz_pu, rfl, ?_, l ++ [o[k]], ?_, hl.snoc hrow.nd hk'⟩
          · have := hl.len
            rw [List.length_map, iz_len]
            omega
          · rw [iz_app, List.map_append]
            rfl
        · exact ⟨l, rfl, hl.up (by omega)⟩
      · rintro _ ⟨l, rfl, hl⟩
        walk_at "kr"
        first | exact ⟨l, rfl, hl.up (by omega)⟩ | exact hl.up (by omega)
    · rintro _ ⟨l, rfl, hl⟩
      refine xs_seq ?_
      dsimp only
      refine xs_mid (fun δ' => ∃ l : List Nat, δ' = [.ow (RDi d), .pu (.int lim), .pu (.int n), .ow (RL K ((iz o).map PyData.int)), .pu (.int kind), .pu (.int often), .ow (RL K (ws.map tupD)), .pu (.int q), .ow (RL K ((iz l).map PyData.int)), .non, .non] ∧ Some_ o q l) ?_ ?_
      · walk_at "kr"
        refine ifB (fun h => ?_) (fun h => ?_)
        · have eqm : ((q : Int) - 1) = ((q - 1 : Nat) : Int) := by omega
          have hqm : q - 1 < o.length := by omega
          walk_at "kr"
          rw [eqm]
          refine ⟨_, _, _, den_al rfl, rfl, atIz hqm, ?_⟩
          walk_at "kr"
          exact ⟨[o[q - 1]], rfl, Some_.one hqm (by omega)⟩
        · walk_at "kr"
          first | exact ⟨l, rfl, hl⟩ | exact hl
      · clear hl l
        rintro _ ⟨l, rfl, hl⟩
        refine xs_seq ?_
        dsimp only
        refine xs_mid (fun δ' => ∃ l : List Nat, δ' = [.ow (RDi d), .pu (.int lim), .pu (.int n), .ow (RL K ((iz o).map PyData.int)), .pu (.int kind), .pu (.int often), .ow (RL K (ws.map tupD)), .pu (.int q), .ow (RL K ((iz l).map PyData.int)), .non, .non] ∧ Some_ o q l) ?_ ?_
        · walk_at "kr"
          refine ifB (fun h => ?_) (fun h => ?_)
          · walk_at "kr"
            refine ⟨rfl, _, rfl, by omega, by omega, fun x hx => ?_⟩
            have hxo : x < o.length := by omega
            refine ⟨_, _, _, den_al rfl, rfl, atIz hxo, ?_⟩
            walk_at "kr"
            exact ⟨[o[x]], rfl, Some_.one hxo (by omega)⟩
          · walk_at "kr"
            first | exact ⟨l, rfl, hl⟩ | exact hl
        · clear hl l
          rintro _ ⟨l, rfl, hl⟩
          refine xs_seq ?_
          dsimp only
          refine xs_mid (fun δ' => ∃ l : List Nat, δ' = [.ow (RDi d), .pu (.int lim), .pu (.int n), .ow (RL K ((iz o).map PyData.int)), .pu (.int kind), .pu (.int often), .ow (RL K (ws.map tupD)), .pu (.int q), .ow (RL K ((iz l).map PyData.int)), .non, .non] ∧ Some_ o q l) ?_ ?_
          · walk_at "kr"
            refine ifB (fun h => ?_) (fun h => ?_)
            · walk_at "kr"
              refine ifB (fun h => ?_) (fun h => ?_)
              · walk_at "kr"
                rw [cut_take (by rw [List.length_map, iz_len]; omega)]
                exact ⟨o.take q, by rw [← List.map_take]; unfold iz; rw [← List.map_take]; rfl, Some_.take hrow.nd⟩
              · walk_at "kr"
                exact ⟨[], rfl, .nil⟩
            · walk_at "kr"
              first | exact ⟨l, rfl, hl⟩ | exact hl
          · clear hl l
            rintro _ ⟨l, rfl, hl⟩
            walk_at "kr"
            intro ns' hp hs
            obtain ⟨l', rfl, hp'⟩ := perm_iz hp
            have hr2 : l'.Pairwise (· < ·) := rise_of hs (hp'.nodup_iff.mpr hl.1)
            walk_at "kr"
            refine ⟨by rw [List.length_map, iz_len, hp'.length_eq]; have := hl.len; omega, ?_⟩
            walk_at "kr"
            have hoq : o[q] < ws.length := by rw [hws.1, hol]; exact hrow.lt (List.getElem_mem hqo)
            refine ⟨_, _, _, den_al rfl, rfl, atIz hqo, ?_⟩
            refine ⟨_, _, rfl, rfl, ixN_nat (by rw [List.length_map]; exact hoq), ?_⟩
            refine ⟨ws.set o[q] l', .pu (.int (q : Int)), .ow (RL K ((iz l).map PyData.int)), ?_, hws.set hrow hqo hr2 fun x hx => hl.2 x (hp'.mem_iff.mp hx)⟩
            rw [List.map_set]
            rfl
  · rintro ⟨ws, s7, s8, rfl, hws⟩
    walk_at "kr"
    refine ev_lcR1 ?_
    walk_at "kr"
    refine ⟨by omega, by omega, wip1 rfl junk_non, fun k acc => ∃ ss : Pl, acc = ss.map svcD ∧ ss.length = k ∧ ∀ (j : Nat) (s : Svc), ss[j]? = some s → ws[j]? = some s.wants ∧ TimesOk s.takes s.ends s.waits s.stays s.tries, ⟨[], rfl, rfl, fun j s hj => nomatch hj⟩, ?_, ?_⟩
    · rintro k _ hk ⟨ss, rfl, hsl, hss⟩
      have hkw : k < ws.length := by rw [hws.1]; omega
      have hat : atI (ws.map tupD) (k : Int) = some (tupD ws[k]) := atI_nat' (by rw [List.getElem?_map, List.getElem?_eq_getElem hkw]; rfl)
      refine turnC1 (Nat.le_of_ble_eq_true rfl) ?_
      simp only [List.set_cons_zero, List.set_cons_succ]
      walk_at "kr"
      refine ⟨rfl, ifT rfl ?_⟩
      walk_at "kr"
      refine ⟨_, _, _, den_al rfl, rfl, hat, ?_⟩
      walk_at "kr"
      refine ev_callD rfl ?_
      walk_at "kr"
      refine ⟨rfl, rfl, rfl, fun r hr => ?_⟩
      obtain ⟨a, b, c, s, t, rfl, ht⟩ := hr
      refine ⟨_, _, rfl, rfl, by show 1 + 5 ≤ 100000; decide, ?_⟩
      refine ⟨_, frz_pu, rfl, by rw [List.length_map]; omega, ss ++ [⟨ws[k], a, b, c, s, t⟩], ?_, ?_, fun j s2 hj => ?_⟩
      · rw [List.map_append]
        rfl
      · rw [List.length_append, hsl]
        rfl
      · rcases Nat.lt_or_ge j ss.length with h | h
        · rw [List.getElem?_append_left h] at hj
          exact hss j s2 hj
        · rw [List.getElem?_append_right h] at hj
          have e0 : j - ss.length = 0 := by
            have := (List.getElem?_eq_some_iff.mp hj).1
            simp at this
            omega
          rw [e0] at hj
          cases hj
          have ej : j = k := by omega
          subst ej
          exact ⟨List.getElem?_eq_getElem hkw, ht⟩
    · rintro _ ⟨ss, rfl, hsl, hss⟩
      have hsl' : ss.length = n := by omega
      walk_at "kr"
      refine ⟨by rw [List.length_map]; omega, ?_⟩
      exact ⟨rt_d fun k2 hk2 => by
        cases hk2
        exact ⟨ss, rfl, told_good hrow hws hn1 (by omega) hsl' hss, by omega⟩, rfl, fun z => nomatch z⟩
end
end Kr

namespace Kr
open PySem PySem.Spec PyProof.Rows L2 Dl
open Evl (Ex)
section
variable {P : Program} {w : World} {K : PySem.W.Frag} {mg : Str → Option Value} {base : Heap}
def strsD (l : List Str) : List PyData := l.map PyData.str
def tWritten (ds : List PyData) (r : Rt) : Prop := ∀ p : Pl, ds = [planD p] → r = .d (.str (textOf p))
theorem shaped_intsT (ns : List Int) : SeqAt.shaped (.tuple (ns.map PyData.int)) = true := (okD_tuple (n := 0) fun x hx => by
  obtain ⟨n, _, rfl⟩ := List.mem_map.mp hx
  exact okD_int).shaped (by decide)
theorem shaped_nilT2 : SeqAt.shaped (.tuple []) = true := by decide +kernel
theorem filter_yes' {α : Type} (xs : List α) : xs.filter (fun _ => true) = xs := by induction xs with | nil => rfl | cons x r ih => rw [List.filter_cons, ih]; rfl
theorem planD_inj' {p q : Pl} (h : planD p = planD q) : p = q := by
  unfold planD at h
  injection h with h
  have hj : ∀ (a b : Svc), svcD a = svcD b → a = b := by
    rintro ⟨a1, a2, a3, a4, a5, a6⟩ ⟨b1, b2, b3, b4, b5, b6⟩ h
    simp only [svcD, PyData.tuple.injEq, List.cons.injEq, PyData.int.injEq, and_true] at h
    obtain ⟨h1, rfl, rfl, rfl, rfl, rfl⟩ := h
    have e : iz a1 = iz b1 := List.map_inj_right (fun x y h => PyData.int.inj h) |>.mp h1
    have e2 : a1 = b1 := List.map_inj_right (fun (x y : Nat) (h : (x : Int) = (y : Int)) => by omega) |>.mp e
    rw [e2]
  exact List.map_inj_right hj |>.mp h
theorem log_small {i : Int} (h0 : 0 ≤ i) (h : i < 1000) : i.natAbs.log2 < 1920 := by
  have h1 : i.natAbs < 2 ^ 10 := by omega
  by_cases hz : i.natAbs = 0
  · rw [hz]; decide
  · have := (Nat.log2_lt hz).mpr h1
    omega
theorem ok_written (D : Df K mg "written" s_written ["plan"]) (B : Bn mg) (hN : Cst K mg "NONE" (.str dashS)) (c_need_plan : Cal P w K mg base 4 "need_plan" (spP K 1 pGood tNone)) : Cal P w K mg base 5 "written" (spP K 1 pGood tWritten) := by
  have nd := sc_written.nd
  obtain ⟨vN, uN, hmN, rN, dN⟩ := hN.ex
  have g_NONE : ∃ u, mg "NONE" = some u ∧ RelV vN u := ⟨uN, hmN, rN⟩
  refine calP D sc_written rfl fun f cdv A outer st H E hr => ⟨_, (pss_cons (ps_expr (Dl.pe_c c_need_plan hr (pa_cons (pv 0) pa_nil)))
      (pss_cons (ps_set (i := 1) nd rfl (Or.inl rfl) (pe_lst pa_nil))
      (pss_cons (ps_for PassesOwn.never rfl (Kk.pi_tup (K := K) (pv 0)) (pg_name (i := 2) nd rfl (Or.inl rfl)) (pss_cons (ps_set (i := 3) nd rfl (Or.inl rfl) (pe_ifExp (pt_cmpR (Kk.op_neD (K := K) hr.units) (pe_ix (Kk.ix_tup (K := K)) (pv 2) pe_int (fun _ _ => rfl)) (pe_tup pa_nil) (nomark _)) (Kk.pe_join (K := K) pe_str (pe_lc (own := [("one", 4)]) rfl nd (Kk.pi_tup (K := K) (pe_ix (Kk.ix_tup (K := K)) (pv 2) pe_int (fun _ _ => rfl))) (blkOk_by (by kernel_rfl)) (fun _ _ _ _ _ => (pg_name (i := 4) nd rfl (by first | exact Or.inl rfl | exact Or.inr rfl))) (fun _ _ _ _ _ => pts_nil) (fun _ _ _ _ _ => (pe_callTy call_str_int (by rfl) B.str (by decide +kernel) (pa_cons (pv 4) pa_nil))))) (C8.pe_gc (by rfl) g_NONE)))
      (pss_one (ps_expr (Kk.pe_bm (K := K) PySem.F.plainAttrs_list PySem.F.slot_list_append PySem.F.type_list_append mt_append (pv 1) (pa_cons (Kk.pe_join (K := K) pe_str (pe_op (Kk.op_catS (K := K)) (pe_lst (pa_cons (pv 3) pa_nil)) (pe_lc (own := [("part", 5)]) rfl nd (Kk.pi_tup (K := K) (pe_slice (Kk.sl_tupA (K := K)) (pv 2) (po_some pe_int) po_none)) (blkOk_by (by kernel_rfl)) (fun _ _ _ _ _ => (pg_name (i := 5) nd rfl (by first | exact Or.inl rfl | exact Or.inr rfl))) (fun _ _ _ _ _ => pts_nil) (fun _ _ _ _ _ => (pe_callTy call_str_int (by rfl) B.str (by decide +kernel) (pa_cons (pv 5) pa_nil)))))) pa_nil))))))
      (pss_one (ps_ret (Kk.pe_join (K := K) pe_str (pv 1))))))), fun ds hn hp => ?_⟩
  obtain ⟨p, rfl, hg⟩ := hp
  have hlen := hg.sound.few
  show ExS K _ _ [.pu (planD p), .non, .non, .non, .non, .non]
  walk_at "kr"
  refine ev_call ?_
  walk_at "kr"
  refine ⟨rfl, ⟨p, rfl, hg⟩, fun r hr => ?_⟩
  cases (show r = .d .none from hr)
  walk_at "kr"
  refine xs_forT ?_
  walk_at "kr"
  refine ⟨fun i δ' => ∃ x2 x3, δ' = [.pu (planD p), .ow (RL K (strsD ((p.take i).map rowT))), x2, x3, .non, .non], ⟨_, _, rfl⟩, fun i y δ' hy => ?_, fun δ' => ?_⟩
  · rintro ⟨x2, x3, rfl⟩
    rw [List.getElem?_map] at hy
    cases hs : p[i]? with
    | none => rw [hs] at hy; cases hy
    | some s =>
    rw [hs] at hy
    cases hy
    have g := hg.sound.svc i s hs
    have hil : i < p.length := (List.getElem?_eq_some_iff.mp hs).1
    refine turn1_name (Nat.le_of_ble_eq_true rfl) ?_
    refine xs_seq ?_
    dsimp only
    refine xs_mid (fun δ' => δ' = [.pu (planD p), .ow (RL K (strsD ((p.take i).map rowT))), .pu (svcD s), .pu (.str (wantsW s)), .non, .non]) ?_ ?_
    · walk_at "kr"
      refine ⟨shaped_intsT _, shaped_nilT2, ?_⟩
      walk_at "kr"
      rw [eqvT_nil]
      by_cases hw : s.wants = []
      · have ew : wantsW s = dashS := if_pos hw
        refine ifF (by rw [hw]; rfl) ?_
        walk_at "kr"
        rw [ew]
        first | rfl | skip
      · have hne : (!((iz s.wants).map PyData.int).isEmpty) = true := by
          cases hq : s.wants with
          | nil => exact absurd hq hw
          | cons a r => rfl
        have ew : wantsW s = Txt.join commaS (s.wants.map fun (n : Nat) => numI (n : Int)) := if_neg hw
        have e1 : (iz s.wants).map (fun i => PyData.str (numI i)) = (s.wants.map fun (n : Nat) => numI (n : Int)).map PyData.str := by
          unfold iz
          rw [List.map_map, List.map_map]
          rfl
        have hok := wants_words g hlen
        have hfew := g.few
        refine ifT hne ?_
        walk_at "kr"
        refine ev_fT (g := PyData.int) (fun _ => true) (fun i => .str (numI i)) ?_
        walk_at "kr"
        refine ⟨wip1 rfl junk_non, Nat.le_of_ble_eq_true rfl, by rw [iz_len]; omega, fun a ha => ?_, ?_⟩
        · obtain ⟨n, rfl, hn⟩ := iz_ex ha
          have := (g.below n hn).1
          unfold Turn1C
          simp only [List.set_cons_zero, List.set_cons_succ]
          walk_at "kr"
          refine ⟨rfl, rfl, fun _ => ?_⟩
          walk_at "kr"
          refine ⟨log_small (by omega) (by omega), ?_⟩
          exact ⟨_, frz_pu, rfl, rfl⟩
        · rw [filter_yes', e1]
          refine ⟨_, .inl den_ow, ?_, ?_⟩
          · have h1 := sum_len (b := 2) fun z hz => (hok z hz).1
            have h2 : (Str.ofString ",").length = 1 := by decide +kernel
            rw [List.length_map] at h1 ⊢
            rw [h2]
            omega
          · walk_at "kr"
            rw [ew]
            first | rfl | skip
    · rintro _ rfl
      have e2 : (partsOf s).map (fun i => PyData.str (numI i)) = ((partsOf s).map numI).map PyData.str := by
        rw [List.map_map]
        rfl
      walk_at "kr"
      refine ev_fT (g := PyData.int) (fun _ => true) (fun i => .str (numI i)) ?_
      walk_at "kr"
      refine ⟨partsOf s, rfl, wip1 rfl junk_non, Nat.le_of_ble_eq_true rfl, by show 5 ≤ 100000; decide, fun a ha => ?_, ?_⟩
      · obtain ⟨n, rfl, hn⟩ := g.num hlen a ha
        unfold Turn1C
        simp only [List.set_cons_zero, List.set_cons_succ]
        walk_at "kr"
        refine ⟨rfl, rfl, fun _ => ?_⟩
        walk_at "kr"
        refine ⟨log_small (by omega) (by omega), ?_⟩
        exact ⟨_, frz_pu, rfl, rfl⟩
      · rw [filter_yes', e2]
        have h1 := sum_len (b := 100) fun z hz => (words_ok g hlen z hz).1
        have h2 : (Str.ofString " ").length = 1 := by decide +kernel
        refine ⟨[.str (wantsW s)], _, den_ow, den_ow, by show 1 + 5 ≤ 100000; decide, wordsOf s, .inl den_ow, ?_, ?_⟩
        · rw [h2]
          have h3 : (wordsOf s).length = 6 := rfl
          rw [h3] at h1 ⊢
          omega
        · walk_at "kr"
          refine ⟨by unfold strsD; rw [List.length_map, List.length_map]; have := List.length_take_le i p; omega, ?_⟩
          refine ⟨.pu (svcD s), .pu (.str (wantsW s)), ?_⟩
          rw [List.take_add_one, hs]
          unfold strsD
          rw [List.map_append, List.map_append]
          rfl
  · rintro ⟨x2, x3, rfl⟩
    walk_at "kr"
    have e3 : p.take (p.map svcD).length = p := by rw [List.length_map, List.take_length]
    rw [e3]
    have h1 := sum_len (b := 700) fun z hz => (rows_ok hg.sound z hz).1
    have h2 : (Str.ofString "\n").length = 1 := by decide +kernel
    rw [List.length_map] at h1
    refine ⟨by rw [h2, List.length_map]; omega, rt_d fun q hq => ?_⟩
    have : p = q := planD_inj' (List.head_eq_of_cons_eq hq)
    subst this
    rfl
end
end Kr

namespace Kr
open PySem PySem.Spec PyProof.Rows L2 Dl
open Evl (Ex)
def figS : Str := Str.ofString "0123456789"
theorem fig_all {c : Nat} (h : 48 ≤ c ∧ c ≤ 57) : c ∈ figS.cps.toList := by
  have key : ∀ d : Nat, d < 10 → 48 + d ∈ figS.cps.toList := by decide +kernel
  have := key (c - 48) (by omega)
  rwa [show 48 + (c - 48) = c by omega] at this
theorem filter_none {α : Type} {p : α → Bool} : ∀ {xs : List α}, (∀ x ∈ xs, p x = false) → xs.filter p = []
  | [], _ => rfl
  | x :: r, h => by
    rw [List.filter_cons, h x (List.mem_cons_self ..), if_neg Bool.false_ne_true]
    exact filter_none fun y hy => h y (List.mem_cons_of_mem _ hy)
def numL' (n : Nat) : List Nat := TL.numL n
def numW (n : Nat) : Str := numI (n : Int)
section
variable {P : Program} {w : World} {K : PySem.W.Frag} {mg : Str → Option Value} {base : Heap}
def pNum (ds : List PyData) : Prop := ∃ n : Nat, ds = [.str (numW n)] ∧ n < 100
def tNum (ds : List PyData) (r : Rt) : Prop := ∀ n : Nat, ds = [.str (numW n)] → n < 100 → r = .d (.int (n : Int))
theorem numW_inj {n m : Nat} (hn : n < 100) (hm : m < 100) (h : numW n = numW m) : n = m := by
  have h1 := numI_int hn
  have h2 := numI_int hm
  unfold numW at h
  rw [h, h2] at h1
  have := Option.some.inj h1
  omega
theorem ok_number_of (D : Df K mg "number_of" s_number_of ["word"]) (B : Bn mg) (hF : Cst K mg "FIGURES" (.str figS)) : Cal P w K mg base 1 "number_of" (spP K 1 pNum tNum) := by
  have nd := sc_number_of.nd
  obtain ⟨vF, uF, hmF, rF, dF⟩ := hF.ex
  have g_FIGURES : ∃ u, mg "FIGURES" = some u ∧ RelV vF u := ⟨uF, hmF, rF⟩
  refine calP D sc_number_of rfl fun f cdv A outer st H E hr => ⟨_, (pss_cons (ps_if (PW.pt (pw_or (pt_not (pt_chain op_le op_le pe_int (pe_callB call_len_str (by rfl) B.len (by decide +kernel) (pa_cons (pv 0) pa_nil)) pe_int)) (pw_or1 (pt_cmpR (Kk.op_neD (K := K) hr.units) (pe_lc (own := [("sign", 1)]) rfl nd (pi_str (pv 0)) (blkOk_by (by kernel_rfl)) (fun _ _ _ _ _ => (pg_name (i := 1) nd rfl (by first | exact Or.inl rfl | exact Or.inr rfl))) (fun _ _ _ _ _ => (pts_one (pt_cmpR op_notIn_sign (pv 1) (C8.pe_gc (by rfl) g_FIGURES) (by rfl)))) (fun _ _ _ _ _ => (pv 1))) (pe_lst pa_nil) (nomark _))))) (pss_one (ps_ret pe_non)) pss_nil)
      (pss_one (ps_ret (pe_ifExp (PW.pt (pw_and (pt_cmpR op_gt (pe_callB call_len_str (by rfl) B.len (by decide +kernel) (pa_cons (pv 0) pa_nil)) pe_int (nomark _)) (pw_and1 (pt_cmpR op_eq (pe_ix ix_str (pv 0) pe_int (fun _ _ => rfl)) pe_str (nomark _))))) pe_non (pe_callTy call_int_str (by rfl) B.int (by decide +kernel) (pa_cons (pv 0) pa_nil)))))), fun ds hn hp => ?_⟩
  obtain ⟨n, rfl, hn100⟩ := hp
  have hl2 := numI_len hn100
  have hl1 := numI_ne n
  have fin : tNum [.str (numW n)] (.d (.int (n : Int))) := fun m e hm => by
    have : numW n = numW m := PyData.str.inj (List.head_eq_of_cons_eq e)
    rw [numW_inj hn100 hm this]
  show ExS K _ _ [.pu (.str (numW n)), .non]
  have hsz : (numW n).length ≤ sizeLine := by
    have h : sizeLine = 16777216 := rfl
    rw [h]
    unfold numW
    omega
  have hl2' : (numW n).length ≤ 2 := hl2
  have hl1' : 1 ≤ (numW n).length := hl1
  walk_at "kr"
  refine ⟨hsz, ?_⟩
  walk_at "kr"
  refine ifT (decide_eq_true (by omega)) ?_
  walk_at "kr"
  rw [decide_eq_true (show ((numW n).length : Int) ≤ 3 by omega)]
  walk_at "kr"
  refine ev_fS (fun _ => false) (fun c => .str ⟨#[c]⟩) ?_
  walk_at "kr"
  refine ⟨wip1 rfl junk_non, Nat.le_of_ble_eq_true rfl, by rw [← TL.len_tl]; omega, fun c hc => ?_, ?_⟩
  · unfold Turn1C
    simp only [List.set_cons_zero, List.set_cons_succ]
    walk_at "kr"
    rw [decide_eq_true (fig_all (numI_dig hc))]
    exact ⟨rfl, rfl, fun z => nomatch z⟩
  · rw [filter_none (p := fun _ => false) (fun _ _ => rfl)]
    walk_at "kr"
    refine ⟨Dl.shaped_nil, ?_⟩
    walk_at "kr"
    refine ⟨hsz, ?_⟩
    walk_at "kr"
    refine ifB (fun h1 => ?_) (fun h1 => ?_)
    · have hlt : 1 < (numL' n).length := by
        have h2 := of_decide_eq_true h1
        have h3 : (numW n).length = (numL' n).length := by unfold numW numL'; rw [TL.len_tl, tl_numI]
        omega
      have h48 := numL_head n hn100 hlt
      cases hc : (numL' n)[0]? with
      | none =>
        have := List.getElem?_eq_none_iff.mp hc
        omega
      | some c =>
        have hat : atI (numW n).cps.toList 0 = some c := atI_nat' (i := 0) (by rw [show (numW n).cps.toList = numL' n from tl_numI n]; exact hc)
        have hne : decide ((⟨#[c]⟩ : Str) = Str.ofString "0") = false := decide_eq_false fun e => by
          have e2 : TL.tl (⟨#[c]⟩ : Str) = TL.tl (Str.ofString "0") := by rw [e]
          have e3 : TL.tl (Str.ofString "0") = [48] := by decide +kernel
          rw [e3] at e2
          have e4 : c = 48 := List.head_eq_of_cons_eq e2
          subst e4
          exact h48 hc
        walk_at "kr"
        refine ⟨_, _, c, rfl, rfl, hsz, hat, ?_⟩
        walk_at "kr"
        rw [hne]
        walk_at "kr"
        exact ⟨_, _, rfl, numI_int hn100, by omega, rt_d fin⟩
    · walk_at "kr"
      exact ⟨_, _, rfl, numI_int hn100, by omega, rt_d fin⟩
def pNums (ds : List PyData) : Prop := ∃ ns : List Nat, ds = [.list ((ns.map numW).map PyData.str)] ∧ (∀ n ∈ ns, n < 100) ∧ ns.length ≤ 100
def tNums (ds : List PyData) (r : Rt) : Prop := ∀ ns : List Nat, ds = [.list ((ns.map numW).map PyData.str)] → (∀ n ∈ ns, n < 100) → r = .d (.tuple ((iz ns).map PyData.int))
def valW (z : Str) : PyData := .int ((PySem.intText? z).getD 0)
theorem valW_num {n : Nat} (h : n < 100) : valW (numW n) = .int (n : Int) := by
  unfold valW numW
  rw [numI_int h]
  rfl
theorem vals_num : ∀ {ns : List Nat}, (∀ n ∈ ns, n < 100) → (ns.map numW).map valW = (iz ns).map PyData.int
  | [], _ => rfl
  | n :: r, h => by
    show valW (numW n) :: (r.map numW).map valW = .int (n : Int) :: (iz r).map PyData.int
    rw [valW_num (h n (List.mem_cons_self ..)), vals_num fun m hm => h m (List.mem_cons_of_mem _ hm)]
theorem strsD_inj {a b : List Str} (h : a.map PyData.str = b.map PyData.str) : a = b := List.map_inj_right (fun x y h => PyData.str.inj h) |>.mp h
theorem nums_inj : ∀ {a b : List Nat}, (∀ n ∈ a, n < 100) → (∀ n ∈ b, n < 100) → a.map numW = b.map numW → a = b
  | [], [], _, _, _ => rfl
  | [], _ :: _, _, _, h => by cases h
  | _ :: _, [], _, _, h => by cases h
  | x :: a, y :: b, ha, hb, h => by
    rw [List.map_cons, List.map_cons] at h
    injection h with h1 h2
    rw [numW_inj (ha x (List.mem_cons_self ..)) (hb y (List.mem_cons_self ..)) h1, nums_inj (fun n hn => ha n (List.mem_cons_of_mem _ hn)) (fun n hn => hb n (List.mem_cons_of_mem _ hn)) h2]
theorem ok_numbers_of (D : Df K mg "numbers_of" s_numbers_of ["words"]) (B : Bn mg) (c_number_of : Cal P w K mg base 1 "number_of" (spP K 1 pNum tNum)) : Cal P w K mg base 2 "numbers_of" (spP K 1 pNums tNums) := by
  have nd := sc_numbers_of.nd
  refine calP D sc_numbers_of rfl fun f cdv A outer st H E hr => ⟨_, (pss_cons (ps_setLc (own := [("word", 2)]) (i := 1) rfl nd rfl rfl (sw_true rfl rfl rfl (by decide +kernel)) (Kk.pi_list (K := K) (pv 0)) (blkOk_by (by kernel_rfl)) (fun _ _ _ _ _ => (pg_name (i := 2) nd rfl (by first | exact Or.inl rfl | exact Or.inr rfl))) (fun _ _ _ _ _ => pts_nil) (fun _ _ _ _ _ => (Dl.pe_c c_number_of hr (pa_cons (pv 2) pa_nil))))
      (pss_one (ps_ret (pe_ifExp (pt_cmpR (Kk.op_in_seq (K := K)) pe_non (pv 1) (by rfl)) pe_non (Kk.pe_tupleOf (K := K) (by rfl) B.tuple (pv 1)))))), fun ds hn hp => ?_⟩
  obtain ⟨ns, rfl, h100, hl⟩ := hp
  show ExS K _ _ [.pu (.list ((ns.map numW).map PyData.str)), .non, .non]
  walk_at "kr"
  refine ev_fL (g := PyData.str) (fun _ => true) valW ?_
  walk_at "kr"
  refine ⟨wip1 rfl junk_non, Nat.le_of_ble_eq_true rfl, by rw [List.length_map]; omega, fun a ha => ?_, ?_⟩
  · obtain ⟨n, hn2, rfl⟩ := List.mem_map.mp ha
    unfold Turn1C
    simp only [List.set_cons_zero, List.set_cons_succ]
    walk_at "kr"
    refine ⟨rfl, rfl, fun _ => ?_⟩
    refine ed_of (ev_call ?_)
    walk_at "kr"
    refine ⟨rfl, ⟨n, rfl, h100 n hn2⟩, fun r hr => ?_⟩
    rw [hr n rfl (h100 n hn2)]
    exact ⟨_, frz_pu, rfl, (valW_num (h100 n hn2)).symm⟩
  · rw [List.filter_eq_self.mpr (fun _ _ => rfl), vals_num h100]
    walk_at "kr"
    refine .inr (.inr ⟨_, _, rfl, .inl (den_al rfl), rfl, all_ints _, ?_⟩)
    rw [if_neg Bool.false_ne_true, memD_none]
    walk_at "kr"
    refine ⟨by rw [List.length_map, iz_len]; omega, ?_⟩
    refine rt_d fun ms e hm => ?_
    have e2 : ns.map numW = ms.map numW := strsD_inj (PyData.list.inj (List.head_eq_of_cons_eq e))
    rw [nums_inj h100 hm e2]
end
end Kr

namespace Kr
open PySem PySem.Spec PyProof.Rows L2 Dl
open Evl (Ex)
theorem wordsOf_ints {s : Svc} {m i : Nat} (g : GoodS m i s) (hm : m ≤ 12) : ∃ ns : List Nat, (partsOf s).map numI = ns.map numW ∧ iz ns = partsOf s ∧ (∀ n ∈ ns, n < 100) ∧ ns.length = 5 := by
  have hp := g.num hm
  refine ⟨(partsOf s).map Int.toNat, ?_, ?_, ?_, rfl⟩
  · rw [List.map_map]
    refine List.map_congr_left fun x hx => ?_
    obtain ⟨n, rfl, hn⟩ := hp x hx
    rfl
  · unfold iz
    rw [List.map_map]
    refine (List.map_congr_left fun x hx => ?_).trans (List.map_id _)
    obtain ⟨n, rfl, hn⟩ := hp x hx
    rfl
  · intro n hn
    obtain ⟨x, hx, rfl⟩ := List.mem_map.mp hn
    obtain ⟨k, rfl, hk⟩ := hp x hx
    exact hk
section
variable {P : Program} {w : World} {K : PySem.W.Frag} {mg : Str → Option Value} {base : Heap}
def pRow (ds : List PyData) : Prop := ∃ (s : Svc) (m i : Nat), ds = [.str (rowT s)] ∧ GoodS m i s ∧ m ≤ 12
def tRow (ds : List PyData) (r : Rt) : Prop := ∀ (s : Svc) (m i : Nat), ds = [.str (rowT s)] → GoodS m i s → m ≤ 12 → r = .d (svcD s)
theorem row_inj {s t : Svc} {m i m2 i2 : Nat} (g : GoodS m i s) (hm : m ≤ 12) (g2 : GoodS m2 i2 t) (hm2 : m2 ≤ 12) (h : rowT s = rowT t) : s = t := by
  have h1 := split_words g hm
  rw [h, split_words g2 hm2] at h1
  unfold wordsOf at h1
  injection h1 with hw hp
  obtain ⟨ns, e1, e2, e3, e4⟩ := wordsOf_ints g hm
  obtain ⟨ms, f1, f2, f3, f4⟩ := wordsOf_ints g2 hm2
  rw [e1, f1] at hp
  have := nums_inj f3 e3 hp
  subst this
  rw [e2] at f2
  have hwn : s.wants = t.wants := by
    unfold wantsW at hw
    by_cases ha : s.wants = []
    · by_cases hb : t.wants = []
      · rw [ha, hb]
      · rw [if_pos ha, if_neg hb] at hw
        exact absurd hw (dash_ne g2 hm2 hb)
    · by_cases hb : t.wants = []
      · rw [if_neg ha, if_pos hb] at hw
        exact absurd hw.symm (dash_ne g hm ha)
      · rw [if_neg ha, if_neg hb] at hw
        have h1 := split_wants g hm ha
        rw [← hw, split_wants g2 hm2 hb] at h1
        exact (nums_inj (fun n hn => by have := (g2.below n hn).1; omega) (fun n hn => by have := (g.below n hn).1; omega) h1).symm
  cases s
  cases t
  simp only [partsOf, List.cons.injEq, and_true] at f2
  simp only at hwn
  obtain ⟨a, b, c, d, e⟩ := f2
  subst a b c d e hwn
  rfl
theorem ok_row_of (D : Df K mg "row_of" s_row_of ["line"]) (B : Bn mg) (hN : Cst K mg "NONE" (.str dashS)) (c_numbers_of : Cal P w K mg base 2 "numbers_of" (spP K 1 pNums tNums)) : Cal P w K mg base 3 "row_of" (spP K 1 pRow tRow) := by
  have nd := sc_row_of.nd
  obtain ⟨vN, uN, hmN, rN, dN⟩ := hN.ex
  have g_NONE : ∃ u, mg "NONE" = some u ∧ RelV vN u := ⟨uN, hmN, rN⟩
  refine calP D sc_row_of rfl fun f cdv A outer st H E hr => ⟨_, (pss_cons (ps_set (i := 1) nd rfl (Or.inl rfl) (pe_split (pv 0) pe_str))
      (pss_cons (ps_if (pt_cmpR op_ne (pe_callB (Kk.call_len_seq (K := K)) (by rfl) B.len (by decide +kernel) (pa_cons (pv 1) pa_nil)) pe_int (nomark _)) (pss_one (ps_ret pe_non)) pss_nil)
      (pss_cons (ps_set (i := 2) nd rfl (Or.inl rfl) (pe_ifExp (pt_cmpR op_eq (pe_ix (Kk.ix_list (K := K)) (pv 1) pe_int (fun _ _ => rfl)) (C8.pe_gc (by rfl) g_NONE) (nomark _)) (pe_tup pa_nil) (Dl.pe_c c_numbers_of hr (pa_cons (pe_split (pe_ix (Kk.ix_list (K := K)) (pv 1) pe_int (fun _ _ => rfl)) pe_str) pa_nil))))
      (pss_cons (ps_set (i := 3) nd rfl (Or.inl rfl) (Dl.pe_c c_numbers_of hr (pa_cons (pe_slice (Kk.sl_list (K := K)) (pv 1) (po_some pe_int) po_none) pa_nil)))
      (pss_one (ps_ret (pe_ifExp (PW.pt (pw_or (pt_cmp (pc_isN (pv 2))) (pw_or1 (pt_cmp (pc_isN (pv 3)))))) pe_non (pe_op (Kk.op_catA (K := K)) (pe_tup (pa_cons (pv 2) pa_nil)) (pv 3))))))))), fun ds hn hp => ?_⟩
  obtain ⟨s, m, i, rfl, g, hm⟩ := hp
  have fin : tRow [.str (rowT s)] (.d (svcD s)) := fun t m2 i2 e g2 hm2 => by
    rw [row_inj g hm g2 hm2 (PyData.str.inj (List.head_eq_of_cons_eq e))]
  obtain ⟨ns, e1, e2, e3, e4⟩ := wordsOf_ints g hm
  have hrow := (row_ok g hm).1
  have hsl : sizeLine = 16777216 := rfl
  have hfew := g.few
  show ExS K _ _ [.pu (.str (rowT s)), .non, .non, .non]
  walk_at "kr"
  refine ⟨by decide +kernel, by rw [hsl]; omega, ?_⟩
  rw [show Txt.split (rowT s) (Str.ofString " ") = wordsOf s from split_words g hm]
  walk_at "kr"
  refine ⟨_, _, _, den_al rfl, rfl, atI_nat' (i := 0) rfl, ?_⟩
  have ec : Dl.cutD ((wordsOf s).map PyData.str) (some 1) none = (ns.map numW).map PyData.str := by
    rw [← e1]
    rfl
  have hw100 : ∀ n ∈ s.wants, n < 100 := fun n hn => by have := (g.below n hn).1; omega
  walk_at "kr"
  by_cases hw : s.wants = []
  · have ew : wantsW s = dashS := if_pos hw
    rw [ew, decide_eq_true rfl]
    walk_at "kr"
    refine ev_call ?_
    walk_at "kr"
    rw [ec]
    refine ⟨rfl, ⟨ns, rfl, e3, by omega⟩, fun r hr => ?_⟩
    rw [hr ns rfl e3]
    walk_at "kr"
    rw [e2]
    refine ⟨by show 1 + 5 ≤ 100000; decide, ?_⟩
    refine rt_d ?_
    have := fin
    unfold svcD at this
    rw [hw] at this
    exact this
  · have ew : wantsW s = Txt.join commaS (s.wants.map fun (n : Nat) => numI (n : Int)) := if_neg hw
    have hlenW := (wantsW_ok g hm).1
    rw [decide_eq_false (fun e => dash_ne g hm hw (ew ▸ e))]
    walk_at "kr"
    refine ev_call ?_
    walk_at "kr"
    refine ⟨_, _, _, den_al rfl, rfl, atI_nat' (i := 0) rfl, ?_⟩
    walk_at "kr"
    refine ⟨by decide +kernel, by rw [hsl]; omega, ?_⟩
    rw [ew, show Txt.split (Txt.join commaS (s.wants.map fun (n : Nat) => numI (n : Int))) (Str.ofString ",") = s.wants.map numW from split_wants g hm hw]
    walk_at "kr"
    refine ⟨rfl, ⟨s.wants, rfl, hw100, by omega⟩, fun r hr => ?_⟩
    rw [hr s.wants rfl hw100]
    walk_at "kr"
    refine ev_call ?_
    walk_at "kr"
    rw [ec]
    refine ⟨rfl, ⟨ns, rfl, e3, by omega⟩, fun r hr => ?_⟩
    rw [hr ns rfl e3]
    walk_at "kr"
    rw [e2]
    refine ⟨by show 1 + 5 ≤ 100000; decide, ?_⟩
    refine rt_d ?_
    exact fin
end
end Kr

namespace Kr
open PySem PySem.Spec PyProof.Rows L2 Dl
open Evl (Ex)
section
variable {P : Program} {w : World} {K : PySem.W.Frag} {mg : Str → Option Value} {base : Heap}
def pRead (ds : List PyData) : Prop := ∃ p : Pl, ds = [.str (textOf p)] ∧ Good p
def tRead (ds : List PyData) (r : Rt) : Prop := ∀ p : Pl, ds = [.str (textOf p)] → Good p → r = .d (planD p)
theorem text_inj {p q : Pl} (hp : Good p) (hq : Good q) (h : textOf p = textOf q) : p = q := by
  have h1 := split_text hp.sound
  rw [h, split_text hq.sound] at h1
  have hl : q.length = p.length := by simpa using congrArg List.length h1
  apply List.ext_getElem? 
  intro i
  cases hs : p[i]? with
  | none =>
    have := List.getElem?_eq_none_iff.mp hs
    exact (List.getElem?_eq_none_iff.mpr (by omega)).symm
  | some s =>
    have hi := (List.getElem?_eq_some_iff.mp hs).1
    have ht : q[i]? = some q[i] := List.getElem?_eq_getElem (by omega)
    rw [ht]
    have e : (q.map rowT)[i]? = (p.map rowT)[i]? := by rw [h1]
    rw [List.getElem?_map, List.getElem?_map, hs, ht] at e
    have e2 : rowT q[i] = rowT s := Option.some.inj e
    rw [row_inj (hq.sound.svc i _ ht) hq.sound.few (hp.sound.svc i _ hs) hp.sound.few e2]
theorem ok_read (D : Df K mg "read" s_read ["text"]) (B : Bn mg) (c_row_of : Cal P w K mg base 3 "row_of" (spP K 1 pRow tRow)) (c_need_plan : Cal P w K mg base 4 "need_plan" (spP K 1 pGood tNone)) : Cal P w K mg base 5 "read" (spP K 1 pRead tRead) := by
  have nd := sc_read.nd
  refine calP D sc_read rfl fun f cdv A outer st H E hr => ⟨_, (pss_cons (ps_set (i := 1) nd rfl (Or.inl rfl) (pe_lst pa_nil))
      (pss_cons (ps_for PassesOwn.never rfl (Kk.pi_enum (K := K) (by rfl) B.enumerate (pa_cons (pe_split (pv 0) pe_str) pa_nil)) (Kk.pg_tup (K := K) (by rfl) (pgs_cons (pg_name (i := 2) nd rfl (Or.inl rfl)) (pgs_cons (pg_name (i := 3) nd rfl (Or.inl rfl)) pgs_nil))) (pss_cons (ps_set (i := 4) nd rfl (Or.inl rfl) (Dl.pe_c c_row_of hr (pa_cons (pv 3) pa_nil)))
      (pss_cons (ps_if (pt_cmp (pc_isN (pv 4))) (pss_one ps_never) pss_nil)
      (pss_one (ps_expr (Kk.pe_bm (K := K) PySem.F.plainAttrs_list PySem.F.slot_list_append PySem.F.type_list_append mt_append (pv 1) (pa_cons (pv 4) pa_nil)))))))
      (pss_cons (ps_expr (Dl.pe_c c_need_plan hr (pa_cons (Kk.pe_tupleOf (K := K) (by rfl) B.tuple (pv 1)) pa_nil)))
      (pss_one (ps_ret (Kk.pe_tupleOf (K := K) (by rfl) B.tuple (pv 1))))))), fun ds hn hp => ?_⟩
  obtain ⟨p, rfl, hg⟩ := hp
  have hlen := hg.sound.few
  have htl := text_len hg.sound
  have hsl : sizeLine = 16777216 := rfl
  have fin : tRead [.str (textOf p)] (.d (planD p)) := fun q e hq => by
    rw [text_inj hg hq (PyData.str.inj (List.head_eq_of_cons_eq e))]
  show ExS K _ _ [.pu (.str (textOf p)), .non, .non, .non, .non]
  walk_at "kr"
  refine xs_forE ?_
  walk_at "kr"
  refine ⟨by decide +kernel, by rw [hsl]; omega, ?_⟩
  rw [show Txt.split (textOf p) (Str.ofString "\n") = p.map rowT from split_text hg.sound]
  walk_at "kr"
  refine ⟨fun i δ' => ∃ x2 x3 x4, δ' = [.pu (.str (textOf p)), .ow (RL K ((p.take i).map svcD)), x2, x3, x4], ⟨_, _, _, rfl⟩, fun i y δ' hy => ?_, fun δ' => ?_⟩
  · rintro ⟨x2, x3, x4, rfl⟩
    rw [List.map_map, List.getElem?_map] at hy
    cases hs : p[i]? with
    | none => rw [hs] at hy; cases hy
    | some s =>
    rw [hs] at hy
    cases hy
    have g := hg.sound.svc i s hs
    refine turn1 tg_tup2 (tgl2 (Nat.le_of_ble_eq_true rfl) (Nat.le_of_ble_eq_true rfl)) ?_
    show ExS K _ _ [.pu (.str (textOf p)), .ow (RL K ((p.take i).map svcD)), .pu (.int i), .pu (.str (rowT s)), x4]
    walk_at "kr"
    refine ev_call ?_
    walk_at "kr"
    refine ⟨rfl, ⟨s, p.length, i, rfl, g, hlen⟩, fun r hr => ?_⟩
    rw [hr s p.length i rfl g hlen]
    walk_at "kr"
    refine ⟨by rw [List.length_map]; have := List.length_take_le i p; have := (List.getElem?_eq_some_iff.mp hs).1; omega, ?_⟩
    refine ⟨.pu (.int i), .pu (.str (rowT s)), .pu (svcD s), ?_⟩
    rw [List.take_add_one, hs, List.map_append]
    rfl
  · rintro ⟨x2, x3, x4, rfl⟩
    have e3 : p.take ((p.map rowT).map PyData.str).length = p := by rw [List.length_map, List.length_map, List.take_length]
    rw [e3]
    walk_at "kr"
    refine ev_call ?_
    walk_at "kr"
    refine ⟨by rw [List.length_map]; omega, ?_⟩
    walk_at "kr"
    refine ⟨rfl, ⟨p, rfl, hg⟩, fun r hr => ?_⟩
    cases (show r = .d .none from hr)
    walk_at "kr"
    refine ⟨by rw [List.length_map]; omega, ?_⟩
    exact rt_d fin
end
end Kr

namespace Kr
open PySem PySem.Spec PyProof.Rows L2 Dl
open Evl (Ex)
theorem szD_svc (s : Svc) (h : s.wants.length ≤ 100) : szD 2 (svcD s) := szD_tuple (by show 6 ≤ 100000; decide) fun x hx => by
  rcases List.mem_cons.mp hx with rfl | hx
  · exact szD_tuple (n := 0) (by rw [List.length_map, iz_len]; omega) fun y hy => by
      obtain ⟨n, _, rfl⟩ := List.mem_map.mp hy
      rfl
  · have : flatD x = true := by
      simp only [List.mem_cons, List.not_mem_nil, or_false] at hx
      rcases hx with rfl | rfl | rfl | rfl | rfl <;> rfl
    exact szD_flat this
def joinW (s : Svc) : Str := Txt.join commaS (s.wants.map fun (n : Nat) => numI (n : Int))
theorem joinW_nil {s : Svc} (h : s.wants = []) : joinW s = Str.ofString "" := by
  unfold joinW
  rw [h]
  decide +kernel
theorem joinW_ne {m i : Nat} {s : Svc} (g : GoodS m i s) (hm : m ≤ 12) (h : s.wants ≠ []) : joinW s ≠ Str.ofString "" := fun e => by
  have e2 := split_wants g hm h
  rw [show Txt.join commaS (s.wants.map fun (n : Nat) => numI (n : Int)) = Str.ofString "" from e] at e2
  have e3 : Txt.split (Str.ofString "") commaS = [Str.ofString ""] := by decide +kernel
  rw [e3] at e2
  cases hw : s.wants with
  | nil => exact h hw
  | cons n r =>
    rw [hw, List.map_cons] at e2
    injection e2 with e4 e5
    have := numI_ne n
    rw [← e4] at this
    exact absurd this (by decide +kernel)
theorem szD_plan {p : Pl} (h : Sound p) : szD 3 (planD p) := szD_tuple (by rw [List.length_map]; have := h.few; omega) fun x hx => by
  obtain ⟨s, hs, rfl⟩ := List.mem_map.mp hx
  obtain ⟨i, hi⟩ := List.mem_iff_getElem?.mp hs
  have := (h.svc i s hi).few
  have := h.few
  exact szD_svc s (by omega)
section
variable {P : Program} {w : World} {K : PySem.W.Frag} {mg : Str → Option Value} {base : Heap}
theorem ok_law {f : Addr} {fd : FuncData} (F : Fun K "law" "law" s_law f fd) (B : Bn mg) (c__law_dice : Cal P w K mg base 1 "_law_dice" (spP K 2 pDice tDice)) (c__law_plan : Cal P w K mg base 3 "_law_plan" (spDi K 1 pPlan tPlan)) (c_written : Cal P w K mg base 5 "written" (spP K 1 pGood tWritten)) (c_read : Cal P w K mg base 5 "read" (spP K 1 pRead tRead)) (c__law_alike : Cal P w K mg base 4 "_law_alike" (spP K 2 (pAlike 4) tTrue2)) : FnOk P w K mg base CX0 6 f fd ["_law_script"] (spP K 1 pLaw tLaw) := by
  have nd := sc_law.nd
  refine fnP F sc_law rfl fun cdv A outer st H E hr => ⟨_, (pss_cons (ps_set (i := 1) nd rfl (Or.inl rfl) (Dl.pe_c c__law_dice hr (pa_cons (pv 0) (pa_cons pe_int pa_nil))))
      (pss_cons (ps_for PassesOwn.never rfl (pi_range1 (by rfl) B.range (pa_cons pe_int pa_nil)) (pg_name (i := 2) nd rfl (Or.inl rfl)) (pss_cons (ps_set (i := 3) nd rfl (Or.inl rfl) (Dl.pe_c c__law_plan hr (pa_cons (pv 1) (pa_cons pe_int pa_nil))))
      (pss_cons (ps_set (i := 4) nd rfl (Or.inl rfl) (pe_lst pa_nil))
      (pss_cons (ps_for PassesOwn.never rfl (Kk.pi_tup (K := K) (pv 3)) (pg_name (i := 5) nd rfl (Or.inl rfl)) (pss_cons (ps_set (i := 6) nd rfl (Or.inl rfl) (Kk.pe_join (K := K) pe_str (pe_lc (own := [("_law_one", 8)]) rfl nd (Kk.pi_tup (K := K) (pe_ix (Kk.ix_tup (K := K)) (pv 5) pe_int (fun _ _ => rfl))) (blkOk_by (by kernel_rfl)) (fun _ _ _ _ _ => (pg_name (i := 8) nd rfl (by first | exact Or.inl rfl | exact Or.inr rfl))) (fun _ _ _ _ _ => pts_nil) (fun _ _ _ _ _ => (pe_callTy call_str_int (by rfl) B.str (by decide +kernel) (pa_cons (pv 8) pa_nil))))))
      (pss_one (ps_expr (Kk.pe_bm (K := K) PySem.F.plainAttrs_list PySem.F.slot_list_append PySem.F.type_list_append mt_append (pv 4) (pa_cons (Kk.pe_join (K := K) pe_str (pe_op (Kk.op_catS (K := K)) (pe_lst (pa_cons (pe_ifExp (pt_cmpR op_ne (pv 6) pe_str (nomark _)) (pv 6) pe_str) pa_nil)) (pe_lc (own := [("_law_part", 9)]) rfl nd (Kk.pi_tup (K := K) (pe_slice (Kk.sl_tupA (K := K)) (pv 5) (po_some pe_int) po_none)) (blkOk_by (by kernel_rfl)) (fun _ _ _ _ _ => (pg_name (i := 9) nd rfl (by first | exact Or.inl rfl | exact Or.inr rfl))) (fun _ _ _ _ _ => pts_nil) (fun _ _ _ _ _ => (pe_callTy call_str_int (by rfl) B.str (by decide +kernel) (pa_cons (pv 9) pa_nil)))))) pa_nil))))))
      (pss_cons (ps_set (i := 7) nd rfl (Or.inl rfl) (Kk.pe_join (K := K) pe_str (pv 4)))
      (pss_one (ps_if (PW.pt (pw_or (pt_not (pt_val (Dl.pe_c c__law_alike hr (pa_cons (Dl.pe_c c_written hr (pa_cons (pv 3) pa_nil)) (pa_cons (pv 7) pa_nil))))) (pw_or (pt_not (pt_val (Dl.pe_c c__law_alike hr (pa_cons (Dl.pe_c c_read hr (pa_cons (pv 7) pa_nil)) (pa_cons (pv 3) pa_nil))))) (pw_or1 (pt_cmpR op_ne (Dl.pe_c c_written hr (pa_cons (Dl.pe_c c_read hr (pa_cons (pv 7) pa_nil)) pa_nil)) (pv 7) (nomark _)))))) (pss_one (ps_ret pe_bl)) pss_nil)))))))
      (pss_one (ps_ret pe_bl)))), fun ds hn hp => ?_⟩
  obtain ⟨ns, rfl, hl⟩ := hp
  generalize hsc : PyData.list (ns.map PyData.int) = sc
  show ExS K _ _ [.pu sc, .non, .non, .non, .non, .non, .non, .non, .non, .non]
  walk_at "kr"
  refine ev_call ?_
  walk_at "kr"
  refine ⟨rfl, ⟨ns, 0, by rw [hsc], by omega, by decide⟩, fun r hr => ?_⟩
  obtain ⟨xs, rfl, ok⟩ := hr
  walk_at "kr"
  refine xs_dice (j := 1) rfl ok fun a => ?_
  walk_at "kr"
  refine xs_forR1 ?_
  walk_at "kr"
  refine ⟨by decide, by decide, fun _ δ' => ∃ s2 s3 s4 s5 s6 s7, δ' = [.pu sc, .ow (RDi a), s2, s3, s4, s5, s6, s7, .non, .non], ⟨_, _, _, _, _, _, rfl⟩, fun i δ' hi => ?_, fun δ' => ?_⟩
  · rintro ⟨s2, s3, s4, s5, s6, s7, rfl⟩
    refine turn1_name (Nat.le_of_ble_eq_true rfl) ?_
    walk_at "kr"
    refine ev_callD rfl ?_
    walk_at "kr"
    refine ⟨rfl, rfl, ⟨12, rfl, by decide, by decide⟩, fun r hr => ?_⟩
    obtain ⟨p, rfl, hg, hpl⟩ := hr 12 rfl
    have hlen := hg.sound.few
    walk_at "kr"
    refine xs_forT ?_
    walk_at "kr"
    refine ⟨fun k δ' => ∃ s5 s6, δ' = [.pu sc, .ow (RDi a), .pu (.int i), .pu (planD p), .ow (RL K (strsD ((p.take k).map rowT))), s5, s6, s7, .non, .non], ⟨_, _, rfl⟩, fun k y δ' hy => ?_, fun δ' => ?_⟩
    · rintro ⟨x2, x3, rfl⟩
      rw [List.getElem?_map] at hy
      cases hs : p[k]? with
      | none => rw [hs] at hy; cases hy
      | some s =>
      rw [hs] at hy
      cases hy
      have g := hg.sound.svc k s hs
      have hil : k < p.length := (List.getElem?_eq_some_iff.mp hs).1
      have e1 : (iz s.wants).map (fun i => PyData.str (numI i)) = (s.wants.map fun (n : Nat) => numI (n : Int)).map PyData.str := by
        unfold iz
        rw [List.map_map, List.map_map]
        rfl
      have e2 : (partsOf s).map (fun i => PyData.str (numI i)) = ((partsOf s).map numI).map PyData.str := by
        rw [List.map_map]
        rfl
      have hok := wants_words g hlen
      have hfew := g.few
      refine turn1_name (Nat.le_of_ble_eq_true rfl) ?_
      walk_at "kr"
      refine ev_fT (g := PyData.int) (fun _ => true) (fun i => .str (numI i)) ?_
      walk_at "kr"
      refine ⟨wip1 rfl junk_non, Nat.le_of_ble_eq_true rfl, by rw [iz_len]; omega, fun a ha => ?_, ?_⟩
      · obtain ⟨n, rfl, hn⟩ := iz_ex ha
        have := (g.below n hn).1
        unfold Turn1C
        simp only [List.set_cons_zero, List.set_cons_succ]
        walk_at "kr"
        refine ⟨rfl, rfl, fun _ => ?_⟩
        walk_at "kr"
        refine ⟨log_small (by omega) (by omega), ?_⟩
        exact ⟨_, frz_pu, rfl, rfl⟩
      · rw [filter_yes', e1]
        refine ⟨_, .inl den_ow, ?_, ?_⟩
        · have h1 := sum_len (b := 2) fun z hz => (hok z hz).1
          have h2 : (Str.ofString ",").length = 1 := by decide +kernel
          rw [List.length_map] at h1 ⊢
          rw [h2]
          omega
        · walk_at "kr"
          by_cases hw : s.wants = []
          · have ew : Str.ofString "-" = wantsW s := (if_pos hw : wantsW s = dashS).symm
            rw [decide_eq_true (show Txt.join (Str.ofString ",") (s.wants.map fun (n : Nat) => numI (n : Int)) = Str.ofString "" from joinW_nil hw)]
            walk_at "kr"
            refine ev_fT (g := PyData.int) (fun _ => true) (fun i => .str (numI i)) ?_
            walk_at "kr"
            refine ⟨partsOf s, rfl, wip1 rfl junk_non, Nat.le_of_ble_eq_true rfl, by show 5 ≤ 100000; decide, fun a ha => ?_, ?_⟩
            · obtain ⟨n, rfl, hn⟩ := g.num hlen a ha
              unfold Turn1C
              simp only [List.set_cons_zero, List.set_cons_succ]
              walk_at "kr"
              refine ⟨rfl, rfl, fun _ => ?_⟩
              walk_at "kr"
              refine ⟨log_small (by omega) (by omega), ?_⟩
              exact ⟨_, frz_pu, rfl, rfl⟩
            · rw [filter_yes', e2]
              have h1 := sum_len (b := 100) fun z hz => (words_ok g hlen z hz).1
              have h2 : (Str.ofString " ").length = 1 := by decide +kernel
              refine ⟨[.str (wantsW s)], _, (by rw [← ew]; exact den_ow), den_ow, by show 1 + 5 ≤ 100000; decide, wordsOf s, .inl den_ow, ?_, ?_⟩
              · rw [h2]
                have h3 : (wordsOf s).length = 6 := rfl
                rw [h3] at h1 ⊢
                omega
              · walk_at "kr"
                refine ⟨by unfold strsD; rw [List.length_map, List.length_map]; have := List.length_take_le k p; omega, ?_⟩
                refine ⟨.pu (svcD s), .pu (.str (joinW s)), ?_⟩
                rw [List.take_add_one, hs]
                unfold strsD
                rw [List.map_append, List.map_append]
                rfl
          · have ew : wantsW s = joinW s := if_neg hw
            rw [decide_eq_false (show ¬ Txt.join (Str.ofString ",") (s.wants.map fun (n : Nat) => numI (n : Int)) = Str.ofString "" from joinW_ne g hlen hw)]
            walk_at "kr"
            refine ev_fT (g := PyData.int) (fun _ => true) (fun i => .str (numI i)) ?_
            walk_at "kr"
            refine ⟨partsOf s, rfl, wip1 rfl junk_non, Nat.le_of_ble_eq_true rfl, by show 5 ≤ 100000; decide, fun a ha => ?_, ?_⟩
            · obtain ⟨n, rfl, hn⟩ := g.num hlen a ha
              unfold Turn1C
              simp only [List.set_cons_zero, List.set_cons_succ]
              walk_at "kr"
              refine ⟨rfl, rfl, fun _ => ?_⟩
              walk_at "kr"
              refine ⟨log_small (by omega) (by omega), ?_⟩
              exact ⟨_, frz_pu, rfl, rfl⟩
            · rw [filter_yes', e2]
              have h1 := sum_len (b := 100) fun z hz => (words_ok g hlen z hz).1
              have h2 : (Str.ofString " ").length = 1 := by decide +kernel
              refine ⟨[.str (wantsW s)], _, (by rw [ew]; exact den_ow), den_ow, by show 1 + 5 ≤ 100000; decide, wordsOf s, .inl den_ow, ?_, ?_⟩
              · rw [h2]
                have h3 : (wordsOf s).length = 6 := rfl
                rw [h3] at h1 ⊢
                omega
              · walk_at "kr"
                refine ⟨by unfold strsD; rw [List.length_map, List.length_map]; have := List.length_take_le k p; omega, ?_⟩
                refine ⟨.pu (svcD s), .pu (.str (joinW s)), ?_⟩
                rw [List.take_add_one, hs]
                unfold strsD
                rw [List.map_append, List.map_append]
                rfl
    · rintro ⟨x2, x3, rfl⟩
      have e3 : p.take (p.map svcD).length = p := by rw [List.length_map, List.take_length]
      rw [e3]
      have h1 := sum_len (b := 700) fun z hz => (rows_ok hg.sound z hz).1
      have h2 : (Str.ofString "\n").length = 1 := by decide +kernel
      rw [List.length_map] at h1
      walk_at "kr"
      refine ⟨by rw [h2, List.length_map]; omega, ?_⟩
      walk_at "kr"
      have al : ∀ x, szD 3 x → pAlike 4 [x, x] := fun x h => ⟨x, rfl, h⟩
      have hw : ∀ r, tWritten [planD p] r → r = .d (.str (textOf p)) := fun r hr => hr p rfl
      have hrd : ∀ r, tRead [.str (textOf p)] r → r = .d (planD p) := fun r hr => hr p rfl hg
      refine ev_call ?_
      walk_at "kr"
      refine ev_call ?_
      walk_at "kr"
      refine ⟨rfl, ⟨p, rfl, hg⟩, fun r hr => ?_⟩
      rw [hw r hr]
      walk_at "kr"
      refine ⟨rfl, al _ (szD_flat rfl), fun r hr => ?_⟩
      cases (show r = .d (.bool true) from hr)
      walk_at "kr"
      refine ev_call ?_
      walk_at "kr"
      refine ev_call ?_
      walk_at "kr"
      refine ⟨rfl, ⟨p, rfl, hg⟩, fun r hr => ?_⟩
      rw [hrd r hr]
      walk_at "kr"
      refine ⟨rfl, al _ (szD_plan hg.sound), fun r hr => ?_⟩
      cases (show r = .d (.bool true) from hr)
      walk_at "kr"
      refine ev_call ?_
      walk_at "kr"
      refine ev_call ?_
      walk_at "kr"
      refine ⟨rfl, ⟨p, rfl, hg⟩, fun r hr => ?_⟩
      rw [hrd r hr]
      walk_at "kr"
      refine ⟨rfl, ⟨p, rfl, hg⟩, fun r hr => ?_⟩
      rw [hw r hr]
      walk_at "kr"
      rw [decide_eq_true (show textOf p = Txt.join (Str.ofString "\n") (p.map rowT) from rfl)]
      walk_at "kr"
      exact ⟨_, _, _, _, _, _, rfl⟩
  · rintro ⟨s2, s3, s4, s5, s6, s7, rfl⟩
    walk_at "kr"
    exact rt_d rfl
end
end Kr

namespace Kr
open PySem PySem.Spec PyProof.Rows L2 Dl
open Evl (Ex)
theorem all_mk {l : PySem.W.OpenLaw} {w : World} {K : PySem.W.Frag} {h : Heap} {mg : Str → Option Value} {fa f0 f1 f2 f3 f4 f5 f6 f7 f8 f9 f10 f11 f12 f13 f14 f15 f16 f17 bBOUNDS bBOUNDS_0 bBOUNDS_1 bBOUNDS_2 bBOUNDS_3 bBOUNDS_4 : Addr} (X : K.In h) (G : h.Ns mainGlobals mg) (hfa : mg "law" = some (.ref fa))
    {od0 an0 od1 an1 od2 an2 od3 an3 od4 an4 od5 an5 od6 an6 od7 an7 od8 an8 od9 an9 od10 an10 od11 an11 od12 an12 od13 an13 od14 an14 od15 an15 od16 an16 od17 an17 oBOUNDS oBOUNDS_0 oBOUNDS_1 oBOUNDS_2 oBOUNDS_3 oBOUNDS_4 : Option Addr} {sl0 sl1 sl2 sl3 sl4 sl5 sl6 sl7 sl8 sl9 sl10 sl11 sl12 sl13 sl14 sl15 sl16 sl17 sBOUNDS sBOUNDS_0 sBOUNDS_1 sBOUNDS_2 sBOUNDS_3 sBOUNDS_4 : Array (Option Value)} {oc0 kV0 dc0 pm0 cd0 ct0 oc1 kV1 dc1 pm1 cd1 ct1 oc2 kV2 dc2 pm2 cd2 ct2 oc3 kV3 dc3 pm3 cd3 ct3 oc4 kV4 dc4 pm4 cd4 ct4 oc5 kV5 dc5 pm5 cd5 ct5 oc6 kV6 dc6 pm6 cd6 ct6 oc7 kV7 dc7 pm7 cd7 ct7 oc8 kV8 dc8 pm8 cd8 ct8 oc9 kV9 dc9 pm9 cd9 ct9 oc10 kV10 dc10 pm10 cd10 ct10 oc11 kV11 dc11 pm11 cd11 ct11 oc12 kV12 dc12 pm12 cd12 ct12 oc13 kV13 dc13 pm13 cd13 ct13 oc14 kV14 dc14 pm14 cd14 ct14 oc15 kV15 dc15 pm15 cd15 ct15 oc16 kV16 dc16 pm16 cd16 ct16 oc17 kV17 dc17 pm17 cd17 ct17 : Value} {tMOST_SERVICES tBOUNDS_0_0 tBOUNDS_0_1 tBOUNDS_1_0 tBOUNDS_1_1 tBOUNDS_2_0 tBOUNDS_2_1 tBOUNDS_3_0 tBOUNDS_3_1 tBOUNDS_4_0 tBOUNDS_4_1 tFIGURES tNONE : Tok} {nBOUNDS nBOUNDS_0 nBOUNDS_1 nBOUNDS_2 nBOUNDS_3 nBOUNDS_4 : Nat} {iBOUNDS_0 iBOUNDS_1 iBOUNDS_2 iBOUNDS_3 iBOUNDS_4 iBOUNDS : Array Value}
    (a0 : PySem.W.nsIn K mainGlobals "is_between" = some (some (.ref f0)))
    (l0 : K.lookup f0 = some ⟨oc0, od0, .func (PySem.W.fnOf "is_between" "is_between" (defArgs s_is_between) (defBody s_is_between) (defScope s_is_between) .none kV0 dc0 pm0 an0 cd0 ct0), sl0⟩)
    (c0 : PySem.W.codeIn K cd0 "is_between" = true)
    (k0 : PySem.W.keepIn K (.ref f0) = true)
    (a1 : PySem.W.nsIn K mainGlobals "is_service" = some (some (.ref f1)))
    (l1 : K.lookup f1 = some ⟨oc1, od1, .func (PySem.W.fnOf "is_service" "is_service" (defArgs s_is_service) (defBody s_is_service) (defScope s_is_service) .none kV1 dc1 pm1 an1 cd1 ct1), sl1⟩)
    (c1 : PySem.W.codeIn K cd1 "is_service" = true)
    (k1 : PySem.W.keepIn K (.ref f1) = true)
    (a2 : PySem.W.nsIn K mainGlobals "ring_from" = some (some (.ref f2)))
    (l2 : K.lookup f2 = some ⟨oc2, od2, .func (PySem.W.fnOf "ring_from" "ring_from" (defArgs s_ring_from) (defBody s_ring_from) (defScope s_ring_from) .none kV2 dc2 pm2 an2 cd2 ct2), sl2⟩)
    (c2 : PySem.W.codeIn K cd2 "ring_from" = true)
    (k2 : PySem.W.keepIn K (.ref f2) = true)
    (a3 : PySem.W.nsIn K mainGlobals "first_ring" = some (some (.ref f3)))
    (l3 : K.lookup f3 = some ⟨oc3, od3, .func (PySem.W.fnOf "first_ring" "first_ring" (defArgs s_first_ring) (defBody s_first_ring) (defScope s_first_ring) .none kV3 dc3 pm3 an3 cd3 ct3), sl3⟩)
    (c3 : PySem.W.codeIn K cd3 "first_ring" = true)
    (k3 : PySem.W.keepIn K (.ref f3) = true)
    (a4 : PySem.W.nsIn K mainGlobals "need_services" = some (some (.ref f4)))
    (l4 : K.lookup f4 = some ⟨oc4, od4, .func (PySem.W.fnOf "need_services" "need_services" (defArgs s_need_services) (defBody s_need_services) (defScope s_need_services) .none kV4 dc4 pm4 an4 cd4 ct4), sl4⟩)
    (c4 : PySem.W.codeIn K cd4 "need_services" = true)
    (k4 : PySem.W.keepIn K (.ref f4) = true)
    (a5 : PySem.W.nsIn K mainGlobals "need_plan" = some (some (.ref f5)))
    (l5 : K.lookup f5 = some ⟨oc5, od5, .func (PySem.W.fnOf "need_plan" "need_plan" (defArgs s_need_plan) (defBody s_need_plan) (defScope s_need_plan) .none kV5 dc5 pm5 an5 cd5 ct5), sl5⟩)
    (c5 : PySem.W.codeIn K cd5 "need_plan" = true)
    (k5 : PySem.W.keepIn K (.ref f5) = true)
    (a6 : PySem.W.nsIn K mainGlobals "written" = some (some (.ref f6)))
    (l6 : K.lookup f6 = some ⟨oc6, od6, .func (PySem.W.fnOf "written" "written" (defArgs s_written) (defBody s_written) (defScope s_written) .none kV6 dc6 pm6 an6 cd6 ct6), sl6⟩)
    (c6 : PySem.W.codeIn K cd6 "written" = true)
    (k6 : PySem.W.keepIn K (.ref f6) = true)
    (a7 : PySem.W.nsIn K mainGlobals "number_of" = some (some (.ref f7)))
    (l7 : K.lookup f7 = some ⟨oc7, od7, .func (PySem.W.fnOf "number_of" "number_of" (defArgs s_number_of) (defBody s_number_of) (defScope s_number_of) .none kV7 dc7 pm7 an7 cd7 ct7), sl7⟩)
    (c7 : PySem.W.codeIn K cd7 "number_of" = true)
    (k7 : PySem.W.keepIn K (.ref f7) = true)
    (a8 : PySem.W.nsIn K mainGlobals "numbers_of" = some (some (.ref f8)))
    (l8 : K.lookup f8 = some ⟨oc8, od8, .func (PySem.W.fnOf "numbers_of" "numbers_of" (defArgs s_numbers_of) (defBody s_numbers_of) (defScope s_numbers_of) .none kV8 dc8 pm8 an8 cd8 ct8), sl8⟩)
    (c8 : PySem.W.codeIn K cd8 "numbers_of" = true)
    (k8 : PySem.W.keepIn K (.ref f8) = true)
    (a9 : PySem.W.nsIn K mainGlobals "row_of" = some (some (.ref f9)))
    (l9 : K.lookup f9 = some ⟨oc9, od9, .func (PySem.W.fnOf "row_of" "row_of" (defArgs s_row_of) (defBody s_row_of) (defScope s_row_of) .none kV9 dc9 pm9 an9 cd9 ct9), sl9⟩)
    (c9 : PySem.W.codeIn K cd9 "row_of" = true)
    (k9 : PySem.W.keepIn K (.ref f9) = true)
    (a10 : PySem.W.nsIn K mainGlobals "read" = some (some (.ref f10)))
    (l10 : K.lookup f10 = some ⟨oc10, od10, .func (PySem.W.fnOf "read" "read" (defArgs s_read) (defBody s_read) (defScope s_read) .none kV10 dc10 pm10 an10 cd10 ct10), sl10⟩)
    (c10 : PySem.W.codeIn K cd10 "read" = true)
    (k10 : PySem.W.keepIn K (.ref f10) = true)
    (a11 : PySem.W.nsIn K mainGlobals "_law_dice" = some (some (.ref f11)))
    (l11 : K.lookup f11 = some ⟨oc11, od11, .func (PySem.W.fnOf "_law_dice" "_law_dice" (defArgs s__law_dice) (defBody s__law_dice) (defScope s__law_dice) .none kV11 dc11 pm11 an11 cd11 ct11), sl11⟩)
    (c11 : PySem.W.codeIn K cd11 "_law_dice" = true)
    (k11 : PySem.W.keepIn K (.ref f11) = true)
    (a12 : PySem.W.nsIn K mainGlobals "_law_off" = some (some (.ref f12)))
    (l12 : K.lookup f12 = some ⟨oc12, od12, .func (PySem.W.fnOf "_law_off" "_law_off" (defArgs s__law_off) (defBody s__law_off) (defScope s__law_off) .none kV12 dc12 pm12 an12 cd12 ct12), sl12⟩)
    (c12 : PySem.W.codeIn K cd12 "_law_off" = true)
    (k12 : PySem.W.keepIn K (.ref f12) = true)
    (a13 : PySem.W.nsIn K mainGlobals "_law_alike" = some (some (.ref f13)))
    (l13 : K.lookup f13 = some ⟨oc13, od13, .func (PySem.W.fnOf "_law_alike" "_law_alike" (defArgs s__law_alike) (defBody s__law_alike) (defScope s__law_alike) .none kV13 dc13 pm13 an13 cd13 ct13), sl13⟩)
    (c13 : PySem.W.codeIn K cd13 "_law_alike" = true)
    (k13 : PySem.W.keepIn K (.ref f13) = true)
    (a14 : PySem.W.nsIn K mainGlobals "_law_mixed" = some (some (.ref f14)))
    (l14 : K.lookup f14 = some ⟨oc14, od14, .func (PySem.W.fnOf "_law_mixed" "_law_mixed" (defArgs s__law_mixed) (defBody s__law_mixed) (defScope s__law_mixed) .none kV14 dc14 pm14 an14 cd14 ct14), sl14⟩)
    (c14 : PySem.W.codeIn K cd14 "_law_mixed" = true)
    (k14 : PySem.W.keepIn K (.ref f14) = true)
    (a15 : PySem.W.nsIn K mainGlobals "_law_times" = some (some (.ref f15)))
    (l15 : K.lookup f15 = some ⟨oc15, od15, .func (PySem.W.fnOf "_law_times" "_law_times" (defArgs s__law_times) (defBody s__law_times) (defScope s__law_times) .none kV15 dc15 pm15 an15 cd15 ct15), sl15⟩)
    (c15 : PySem.W.codeIn K cd15 "_law_times" = true)
    (k15 : PySem.W.keepIn K (.ref f15) = true)
    (a16 : PySem.W.nsIn K mainGlobals "_law_plan" = some (some (.ref f16)))
    (l16 : K.lookup f16 = some ⟨oc16, od16, .func (PySem.W.fnOf "_law_plan" "_law_plan" (defArgs s__law_plan) (defBody s__law_plan) (defScope s__law_plan) .none kV16 dc16 pm16 an16 cd16 ct16), sl16⟩)
    (c16 : PySem.W.codeIn K cd16 "_law_plan" = true)
    (k16 : PySem.W.keepIn K (.ref f16) = true)
    (a17 : PySem.W.nsIn K mainGlobals "law" = some (some (.ref f17)))
    (l17 : K.lookup f17 = some ⟨oc17, od17, .func (PySem.W.fnOf "law" "law" (defArgs s_law) (defBody s_law) (defScope s_law) .none kV17 dc17 pm17 an17 cd17 ct17), sl17⟩)
    (c17 : PySem.W.codeIn K cd17 "law" = true)
    (k17 : PySem.W.keepIn K (.ref f17) = true)
    (qMOST_SERVICES : PySem.W.nsIn K mainGlobals "MOST_SERVICES" = some (some (.int 12 tMOST_SERVICES)))
    (qBOUNDS : PySem.W.nsIn K mainGlobals "BOUNDS" = some (some (.ref bBOUNDS)))
    (yBOUNDS_0 : K.lookup bBOUNDS_0 = some ⟨.type "tuple", oBOUNDS_0, .seq iBOUNDS_0 nBOUNDS_0, sBOUNDS_0⟩) (wBOUNDS_0 : iBOUNDS_0 = #[.int 1 tBOUNDS_0_0, .int 20 tBOUNDS_0_1])
    (yBOUNDS_1 : K.lookup bBOUNDS_1 = some ⟨.type "tuple", oBOUNDS_1, .seq iBOUNDS_1 nBOUNDS_1, sBOUNDS_1⟩) (wBOUNDS_1 : iBOUNDS_1 = #[.int 1 tBOUNDS_1_0, .int 20 tBOUNDS_1_1])
    (yBOUNDS_2 : K.lookup bBOUNDS_2 = some ⟨.type "tuple", oBOUNDS_2, .seq iBOUNDS_2 nBOUNDS_2, sBOUNDS_2⟩) (wBOUNDS_2 : iBOUNDS_2 = #[.int 1 tBOUNDS_2_0, .int 20 tBOUNDS_2_1])
    (yBOUNDS_3 : K.lookup bBOUNDS_3 = some ⟨.type "tuple", oBOUNDS_3, .seq iBOUNDS_3 nBOUNDS_3, sBOUNDS_3⟩) (wBOUNDS_3 : iBOUNDS_3 = #[.int 1 tBOUNDS_3_0, .int 50 tBOUNDS_3_1])
    (yBOUNDS_4 : K.lookup bBOUNDS_4 = some ⟨.type "tuple", oBOUNDS_4, .seq iBOUNDS_4 nBOUNDS_4, sBOUNDS_4⟩) (wBOUNDS_4 : iBOUNDS_4 = #[.int 1 tBOUNDS_4_0, .int 9 tBOUNDS_4_1])
    (yBOUNDS : K.lookup bBOUNDS = some ⟨.type "tuple", oBOUNDS, .seq iBOUNDS nBOUNDS, sBOUNDS⟩) (wBOUNDS : iBOUNDS = #[.ref bBOUNDS_0, .ref bBOUNDS_1, .ref bBOUNDS_2, .ref bBOUNDS_3, .ref bBOUNDS_4])
    (qFIGURES : PySem.W.nsIn K mainGlobals "FIGURES" = some (some (.str "0123456789" tFIGURES)))
    (qNONE : PySem.W.nsIn K mainGlobals "NONE" = some (some (.str "-" tNONE)))
    (zlen : PySem.W.nsIn K mainGlobals "len" = some none)
    (zrange : PySem.W.nsIn K mainGlobals "range" = some none)
    (zsorted : PySem.W.nsIn K mainGlobals "sorted" = some none)
    (zset : PySem.W.nsIn K mainGlobals "set" = some none)
    (zisinstance : PySem.W.nsIn K mainGlobals "isinstance" = some none)
    (zenumerate : PySem.W.nsIn K mainGlobals "enumerate" = some none)
    (zlist : PySem.W.nsIn K mainGlobals "list" = some none)
    (ztuple : PySem.W.nsIn K mainGlobals "tuple" = some none)
    (zabs : PySem.W.nsIn K mainGlobals "abs" = some none)
    (zmin : PySem.W.nsIn K mainGlobals "min" = some none)
    (zmax : PySem.W.nsIn K mainGlobals "max" = some none)
    (zint : PySem.W.nsIn K mainGlobals "int" = some none)
    (zstr : PySem.W.nsIn K mainGlobals "str" = some none)
    (zbool : PySem.W.nsIn K mainGlobals "bool" = some none)
    (zdict : PySem.W.nsIn K mainGlobals "dict" = some none)
    (zall : PySem.W.nsIn K mainGlobals "all" = some none)
    (zsum : PySem.W.nsIn K mainGlobals "sum" = some none)
    : ∃ fd : FuncData, (∀ (s : Shared) (v : Value), BindsTo s fd ⟨[v], []⟩ [("_law_script", v)]) ∧ ∀ base : Heap, K.In base → base.Ns mainGlobals mg → FnOk l.prog w K mg base CX0 6 fa fd ["_law_script"] (spLaw K) := by
  have e := hfa.symm.trans (PySem.W.mg_of X G a17)
  cases e
  have F0 := fun_mk (st := s_is_between) l0 c0 k0
  have D_is_between : Df K mg "is_between" s_is_between ["part", "low", "high"] := df_of F0 (PySem.W.mg_of X G a0) (F0.binds fun _ _ _ _ _ _ us hl => match us, hl with | [_, _, _], _ => rfl)
  have F1 := fun_mk (st := s_is_service) l1 c1 k1
  have D_is_service : Df K mg "is_service" s_is_service ["service", "many", "number"] := df_of F1 (PySem.W.mg_of X G a1) (F1.binds fun _ _ _ _ _ _ us hl => match us, hl with | [_, _, _], _ => rfl)
  have F2 := fun_mk (st := s_ring_from) l2 c2 k2
  have D_ring_from : Df K mg "ring_from" s_ring_from ["plan", "begin"] := df_of F2 (PySem.W.mg_of X G a2) (F2.binds fun _ _ _ _ _ _ us hl => match us, hl with | [_, _], _ => rfl)
  have F3 := fun_mk (st := s_first_ring) l3 c3 k3
  have D_first_ring : Df K mg "first_ring" s_first_ring ["plan"] := df_of F3 (PySem.W.mg_of X G a3) (F3.binds fun _ _ _ _ _ _ us hl => match us, hl with | [_], _ => rfl)
  have F4 := fun_mk (st := s_need_services) l4 c4 k4
  have D_need_services : Df K mg "need_services" s_need_services ["plan"] := df_of F4 (PySem.W.mg_of X G a4) (F4.binds fun _ _ _ _ _ _ us hl => match us, hl with | [_], _ => rfl)
  have F5 := fun_mk (st := s_need_plan) l5 c5 k5
  have D_need_plan : Df K mg "need_plan" s_need_plan ["plan"] := df_of F5 (PySem.W.mg_of X G a5) (F5.binds fun _ _ _ _ _ _ us hl => match us, hl with | [_], _ => rfl)
  have F6 := fun_mk (st := s_written) l6 c6 k6
  have D_written : Df K mg "written" s_written ["plan"] := df_of F6 (PySem.W.mg_of X G a6) (F6.binds fun _ _ _ _ _ _ us hl => match us, hl with | [_], _ => rfl)
  have F7 := fun_mk (st := s_number_of) l7 c7 k7
  have D_number_of : Df K mg "number_of" s_number_of ["word"] := df_of F7 (PySem.W.mg_of X G a7) (F7.binds fun _ _ _ _ _ _ us hl => match us, hl with | [_], _ => rfl)
  have F8 := fun_mk (st := s_numbers_of) l8 c8 k8
  have D_numbers_of : Df K mg "numbers_of" s_numbers_of ["words"] := df_of F8 (PySem.W.mg_of X G a8) (F8.binds fun _ _ _ _ _ _ us hl => match us, hl with | [_], _ => rfl)
  have F9 := fun_mk (st := s_row_of) l9 c9 k9
  have D_row_of : Df K mg "row_of" s_row_of ["line"] := df_of F9 (PySem.W.mg_of X G a9) (F9.binds fun _ _ _ _ _ _ us hl => match us, hl with | [_], _ => rfl)
  have F10 := fun_mk (st := s_read) l10 c10 k10
  have D_read : Df K mg "read" s_read ["text"] := df_of F10 (PySem.W.mg_of X G a10) (F10.binds fun _ _ _ _ _ _ us hl => match us, hl with | [_], _ => rfl)
  have F11 := fun_mk (st := s__law_dice) l11 c11 k11
  have D__law_dice : Df K mg "_law_dice" s__law_dice ["_law_script", "_law_k"] := df_of F11 (PySem.W.mg_of X G a11) (F11.binds fun _ _ _ _ _ _ us hl => match us, hl with | [_, _], _ => rfl)
  have F12 := fun_mk (st := s__law_off) l12 c12 k12
  have D__law_off : Df K mg "_law_off" s__law_off ["_law_d", "_law_most"] := df_of F12 (PySem.W.mg_of X G a12) (F12.binds fun _ _ _ _ _ _ us hl => match us, hl with | [_, _], _ => rfl)
  have F13 := fun_mk (st := s__law_alike) l13 c13 k13
  have D__law_alike : Df K mg "_law_alike" s__law_alike ["_law_found", "_law_due"] := df_of F13 (PySem.W.mg_of X G a13) (F13.binds fun _ _ _ _ _ _ us hl => match us, hl with | [_, _], _ => rfl)
  have F14 := fun_mk (st := s__law_mixed) l14 c14 k14
  have D__law_mixed : Df K mg "_law_mixed" s__law_mixed ["_law_d", "_law_row"] := df_of F14 (PySem.W.mg_of X G a14) (F14.binds fun _ _ _ _ _ _ us hl => match us, hl with | [_, _], _ => rfl)
  have F15 := fun_mk (st := s__law_times) l15 c15 k15
  have D__law_times : Df K mg "_law_times" s__law_times ["_law_d"] := df_of F15 (PySem.W.mg_of X G a15) (F15.binds fun _ _ _ _ _ _ us hl => match us, hl with | [_], _ => rfl)
  have F16 := fun_mk (st := s__law_plan) l16 c16 k16
  have D__law_plan : Df K mg "_law_plan" s__law_plan ["_law_d", "_law_limit"] := df_of F16 (PySem.W.mg_of X G a16) (F16.binds fun _ _ _ _ _ _ us hl => match us, hl with | [_, _], _ => rfl)
  have C_MOST_SERVICES := cst_int (K := K) (PySem.W.mg_of X G qMOST_SERVICES)
  subst wBOUNDS_0
  have dBOUNDS_0 := tup_K (K := K) yBOUNDS_0 (Nat.le_of_ble_eq_true rfl) (xs := [.int 1, .int 20]) (.cons ⟨_, rfl⟩ (.cons ⟨_, rfl⟩ (.nil))) (fun B => .cons (.int 1) (.cons (.int 20) (.nil)))
  subst wBOUNDS_1
  have dBOUNDS_1 := tup_K (K := K) yBOUNDS_1 (Nat.le_of_ble_eq_true rfl) (xs := [.int 1, .int 20]) (.cons ⟨_, rfl⟩ (.cons ⟨_, rfl⟩ (.nil))) (fun B => .cons (.int 1) (.cons (.int 20) (.nil)))
  subst wBOUNDS_2
  have dBOUNDS_2 := tup_K (K := K) yBOUNDS_2 (Nat.le_of_ble_eq_true rfl) (xs := [.int 1, .int 20]) (.cons ⟨_, rfl⟩ (.cons ⟨_, rfl⟩ (.nil))) (fun B => .cons (.int 1) (.cons (.int 20) (.nil)))
  subst wBOUNDS_3
  have dBOUNDS_3 := tup_K (K := K) yBOUNDS_3 (Nat.le_of_ble_eq_true rfl) (xs := [.int 1, .int 50]) (.cons ⟨_, rfl⟩ (.cons ⟨_, rfl⟩ (.nil))) (fun B => .cons (.int 1) (.cons (.int 50) (.nil)))
  subst wBOUNDS_4
  have dBOUNDS_4 := tup_K (K := K) yBOUNDS_4 (Nat.le_of_ble_eq_true rfl) (xs := [.int 1, .int 9]) (.cons ⟨_, rfl⟩ (.cons ⟨_, rfl⟩ (.nil))) (fun B => .cons (.int 1) (.cons (.int 9) (.nil)))
  subst wBOUNDS
  have dBOUNDS := tup_K (K := K) yBOUNDS (Nat.le_of_ble_eq_true rfl) (xs := [.ref bBOUNDS_0, .ref bBOUNDS_1, .ref bBOUNDS_2, .ref bBOUNDS_3, .ref bBOUNDS_4]) (.cons rfl (.cons rfl (.cons rfl (.cons rfl (.cons rfl (.nil)))))) (fun B => .cons (dBOUNDS_0 B) (.cons (dBOUNDS_1 B) (.cons (dBOUNDS_2 B) (.cons (dBOUNDS_3 B) (.cons (dBOUNDS_4 B) (.nil))))))
  have C_BOUNDS := cst_tup (K := K) (PySem.W.mg_of X G qBOUNDS) dBOUNDS
  have C_FIGURES := cst_str (K := K) (PySem.W.mg_of X G qFIGURES)
  have C_NONE := cst_str (K := K) (PySem.W.mg_of X G qNONE)
  have B : Bn mg := ⟨PySem.W.mg_none_of X G zlen, PySem.W.mg_none_of X G zrange, PySem.W.mg_none_of X G zsorted, PySem.W.mg_none_of X G zset, PySem.W.mg_none_of X G zisinstance, PySem.W.mg_none_of X G zenumerate, PySem.W.mg_none_of X G zlist, PySem.W.mg_none_of X G ztuple, PySem.W.mg_none_of X G zabs, PySem.W.mg_none_of X G zmin, PySem.W.mg_none_of X G zmax, PySem.W.mg_none_of X G zint, PySem.W.mg_none_of X G zstr, PySem.W.mg_none_of X G zbool, PySem.W.mg_none_of X G zdict, PySem.W.mg_none_of X G zall, PySem.W.mg_none_of X G zsum⟩
  refine ⟨PySem.W.fnOf "law" "law" (defArgs s_law) (defBody s_law) (defScope s_law) .none kV17 dc17 pm17 an17 cd17 ct17, fun s v => .of_eq rfl, fun base _ _ => ?_⟩
  have h_between := ok_is_between (P := l.prog) (w := w) (base := base) D_is_between B
  have h_service := ok_is_service D_is_service B h_between C_BOUNDS
  have h_ring := ok_ring_from (P := l.prog) (w := w) (base := base) D_ring_from B
  have h_first := ok_first_ring D_first_ring B h_ring
  have h_services := ok_need_services D_need_services B C_MOST_SERVICES h_service
  have h_need := ok_need_plan D_need_plan B h_services h_first
  have h_written := ok_written D_written B C_NONE h_need
  have h_number := ok_number_of (P := l.prog) (w := w) (base := base) D_number_of B C_FIGURES
  have h_numbers := ok_numbers_of D_numbers_of B h_number
  have h_row := ok_row_of D_row_of B C_NONE h_numbers
  have h_read := ok_read D_read B h_row h_need
  have h_dice := ok__law_dice (P := l.prog) (w := w) (base := base) D__law_dice B
  have h_off := ok__law_off (P := l.prog) (w := w) (base := base) D__law_off B
  have h_mixed := ok__law_mixed D__law_mixed B h_off
  have h_times := ok__law_times D__law_times B h_off
  have h_plan := ok__law_plan D__law_plan B h_off h_mixed h_times
  exact fnLaw (ok_law (fun_mk (st := s_law) l17 c17 k17) B h_dice h_plan h_written h_read (ok__law_alike D__law_alike B 4))
theorem walk {l : PySem.W.OpenLaw} {q : Program} {loose : List Str} {XP : (Str → Option Value) → Heap → Prop} {YP : World → Heap → Prop} {d : DefRec} {K : Params → PySem.W.Frag} (hn : l.most = some 63) (hdf : d.params.defaults = [])
    (hY : ∀ (w : World) (h : Heap), YP w h → (K w.params).In h)
    (F : ∀ (w : World) (mg : Str → Option Value) (fa : Addr) (h : Heap), (K w.params).In h → h.Ns mainGlobals mg → mg d.name = some (.ref fa) →
      ∃ fd : FuncData, (∀ (s : Shared) (u : Value), BindsTo s fd ⟨[u], []⟩ [("_law_script", u)]) ∧ ∀ base : Heap, (K w.params).In base → base.Ns mainGlobals mg → FnOk l.prog w (K w.params) mg base CX0 6 fa fd ["_law_script"] (spLaw (K w.params))) :
    PySem.W.WalkO q loose XP YP l.row.toRowW d [] (fun f vs => PySem.call f vs) :=
  L2.walk_of (n := 63) (k := 6) (x := "_law_script") (CX := fun _ => CX0) (sp := fun w => spLaw (K w.params)) hn (by decide) hdf ⟨rfl, by decide, by decide⟩ hY F (fun _ _ a ns hl _ hS => ⟨a, ns, rfl, hS, hl, fun _ => rfl⟩) fun _ _ _ _ _ z => z
end Kr
open PySem PySem.W PyProof.Rows in
set_option maxRecDepth 100000 in
set_option maxHeartbeats 0 in
set_option pp.maxSteps 60 in
set_option pp.deepTerms.threshold 2 in
theorem PySem.Challenge.cw_keeprunning_k14_written_and_read_holds : PySem.Challenge.rw_keeprunning_k14_written_and_read.Holds := by
  w_on; o_law; k_head; (case hw => w_witness2)
  k_fill
  refine Kr.walk (l := PySem.Challenge.rw_keeprunning_k14_written_and_read) rfl rfl (fun w h Y => PySem.W.kIn_of Y) ?F
  case F =>
    intro w mg fa h KX G hmg
    refine' Kr.all_mk KX G hmg ?a0 ?l0 ?c0 ?k0 ?a1 ?l1 ?c1 ?k1 ?a2 ?l2 ?c2 ?k2 ?a3 ?l3 ?c3 ?k3 ?a4 ?l4 ?c4 ?k4 ?a5 ?l5 ?c5 ?k5 ?a6 ?l6 ?c6 ?k6 ?a7 ?l7 ?c7 ?k7 ?a8 ?l8 ?c8 ?k8 ?a9 ?l9 ?c9 ?k9 ?a10 ?l10 ?c10 ?k10 ?a11 ?l11 ?c11 ?k11 ?a12 ?l12 ?c12 ?k12 ?a13 ?l13 ?c13 ?k13 ?a14 ?l14 ?c14 ?k14 ?a15 ?l15 ?c15 ?k15 ?a16 ?l16 ?c16 ?k16 ?a17 ?l17 ?c17 ?k17 ?qMOST_SERVICES ?qBOUNDS ?yBOUNDS_0 ?wBOUNDS_0 ?yBOUNDS_1 ?wBOUNDS_1 ?yBOUNDS_2 ?wBOUNDS_2 ?yBOUNDS_3 ?wBOUNDS_3 ?yBOUNDS_4 ?wBOUNDS_4 ?yBOUNDS ?wBOUNDS ?qFIGURES ?qNONE ?zlen ?zrange ?zsorted ?zset ?zisinstance ?zenumerate ?zlist ?ztuple ?zabs ?zmin ?zmax ?zint ?zstr ?zbool ?zdict ?zall ?zsum
    (case a0 => k_is)
    (case l0 => k_is)
    (case c0 => k_is)
    (case k0 => k_is)
    (case a1 => k_is)
    (case l1 => k_is)
    (case c1 => k_is)
    (case k1 => k_is)
    (case a2 => k_is)
    (case l2 => k_is)
    (case c2 => k_is)
    (case k2 => k_is)
    (case a3 => k_is)
    (case l3 => k_is)
    (case c3 => k_is)
    (case k3 => k_is)
    (case a4 => k_is)
    (case l4 => k_is)
    (case c4 => k_is)
    (case k4 => k_is)
    (case a5 => k_is)
    (case l5 => k_is)
    (case c5 => k_is)
    (case k5 => k_is)
    (case a6 => k_is)
    (case l6 => k_is)
    (case c6 => k_is)
    (case k6 => k_is)
    (case a7 => k_is)
    (case l7 => k_is)
    (case c7 => k_is)
    (case k7 => k_is)
    (case a8 => k_is)
    (case l8 => k_is)
    (case c8 => k_is)
    (case k8 => k_is)
    (case a9 => k_is)
    (case l9 => k_is)
    (case c9 => k_is)
    (case k9 => k_is)
    (case a10 => k_is)
    (case l10 => k_is)
    (case c10 => k_is)
    (case k10 => k_is)
    (case a11 => k_is)
    (case l11 => k_is)
    (case c11 => k_is)
    (case k11 => k_is)
    (case a12 => k_is)
    (case l12 => k_is)
    (case c12 => k_is)
    (case k12 => k_is)
    (case a13 => k_is)
    (case l13 => k_is)
    (case c13 => k_is)
    (case k13 => k_is)
    (case a14 => k_is)
    (case l14 => k_is)
    (case c14 => k_is)
    (case k14 => k_is)
    (case a15 => k_is)
    (case l15 => k_is)
    (case c15 => k_is)
    (case k15 => k_is)
    (case a16 => k_is)
    (case l16 => k_is)
    (case c16 => k_is)
    (case k16 => k_is)
    (case a17 => k_is)
    (case l17 => k_is)
    (case c17 => k_is)
    (case k17 => k_is)
    (case qMOST_SERVICES => k_is)
    (case qBOUNDS => k_is)
    (case yBOUNDS => k_is)
    (case wBOUNDS => rfl)
    (case yBOUNDS_0 => k_is)
    (case wBOUNDS_0 => rfl)
    (case yBOUNDS_1 => k_is)
    (case wBOUNDS_1 => rfl)
    (case yBOUNDS_2 => k_is)
    (case wBOUNDS_2 => rfl)
    (case yBOUNDS_3 => k_is)
    (case wBOUNDS_3 => rfl)
    (case yBOUNDS_4 => k_is)
    (case wBOUNDS_4 => rfl)
    (case qFIGURES => k_is)
    (case qNONE => k_is)
    (case zlen => k_is)
    (case zrange => k_is)
    (case zsorted => k_is)
    (case zset => k_is)
    (case zisinstance => k_is)
    (case zenumerate => k_is)
    (case zlist => k_is)
    (case ztuple => k_is)
    (case zabs => k_is)
    (case zmin => k_is)
    (case zmax => k_is)
    (case zint => k_is)
    (case zstr => k_is)
    (case zbool => k_is)
    (case zdict => k_is)
    (case zall => k_is)
    (case zsum => k_is)
