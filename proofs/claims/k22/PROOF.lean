import PyProof.Rows.All
import Wide.All
import OpenK.AllK
import Wide.FinOn
import PyProof.Rows.StrOr
import KE.KIntText
import KE.KxText
import HandS.ForExc
import HandS.Comp
import HandS.Dict
import HandS.Iter
import HandS.Text
import HandS.FStr
import HandS.Codes
import PyProof.RangeIter
import HandS.Hot
import HandS.HotCalls
import HandS.OwnEq
import HandS.ExcIs
import KE.KExcIs
import HandS.ExcField
import KE.KTryMore
import HandS.ExcCtx
import PyProof.RulesAs
import HandS.Lambda
import HandS.ExcInit
import HandS.ExcInitHot
import HandS.Gcd
import HandS.IsInst
import HandS.TupAny
import HandS.Words
import HandS.Defaults
import HandS.Walk
import HandS.WideBits
import HandS.ExcBuiltin
import PyProof.StrOps2
import HandS.ReplaceLit
import HandS.ReplaceDef
import HandS.Strs
import KE.KExcInit
import HandS.IterNext
import HandS.OwnIter
import PyProof.Rows.InDataRows
import KE.GoesEnum
import PyProof.Rows.SortStr
import HandS.DictComp
import KE.KStateDown
import KE.KNest
import KE.KNestM
import HandS.Head0
import HandS.Head1
import HandS.Head2
import HandS.Head3
import HandS.HeadHook1
import HandS.HeadHook2
import HandS.HeadHook3
import HandS.HeadHook4
import HandS.HeadWalk
import PySem.Challenge.RW_waysacross_k22_whole_turns_between
import HandS.ReplaceList
import HandS.Small
import HandS.Style
import PyProof.ExcBaseAll.LookupError
set_option Elab.async false
set_option linter.all false
set_option maxRecDepth 100000
set_option maxHeartbeats 4000000
/-! LayA: ints written and read up to 4,300 digits -/
namespace Lay
open PySem PySem.Spec PyProof.Rows L2
/-- nobody has set another limit of digits -/
def DigK (K : PySem.W.Frag) : Prop := PySem.W.nsIn K cStatics "sys.int_max_str_digits" = some none
theorem ns_gone {K : PySem.W.Frag} {h : Heap} {a : Addr} {m : Str → Option Value} {n : Str} (kin : K.In h) (g : h.Ns a m) (e : PySem.W.nsIn K a n = some none) : m n = none := by
  obtain ⟨ob, ens, epo, h1, h2, _, look⟩ := g
  rw [← look n]
  unfold PySem.W.nsIn at e
  cases q : K.lookup a with
  | none => rw [q] at e; cases e
  | some o2 =>
    have same := kin _ _ q
    rw [h1] at same
    obtain rfl := Option.some.inj same
    obtain ⟨c, d, dt, sl⟩ := ob
    obtain rfl : dt = .dict ens epo := h2
    rw [q] at e
    have e2 : (match ens.toList.find? (·.key.isStr n) with
      | some en => some (some en.val)
      | none => if ens.toList.any (·.refKey) then none else some none) = some none := e
    cases z : ens.toList.find? (·.key.isStr n) with
    | some en => rw [z] at e2; cases e2
    | none =>
      unfold nsFind findBy
      rw [← Array.find?_toList, z]
      rfl
section
variable {X : Cx} {pins : List (Addr × Obj)} {σ : L2.St} {H : Hp} {s : Shared}
theorem no_digits (I : Inv X pins σ H s) (d : DigK X.K) : s.heap.NoDigits := by
  obtain ⟨mc, h1, _⟩ := I.nolimit
  exact ⟨mc, h1, ns_gone I.kIn h1 d⟩
/-- ints below 10 ^ 4300 are written -/
def Short (i : Int) : Prop := i.natAbs < 10 ^ 4300
theorem call_strBig (hc : X.calm = true) (d : DigK X.K) : CallR X (.type "str") (fun xs H Q => ∃ i, xs = [.int i] ∧ Short i ∧ Q (.str (toString i)) H) := by
  intro pins s σ H xs us Q I r h
  obtain ⟨i, rfl, hi, q⟩ := h
  obtain ⟨u, rfl, t, rfl⟩ := vals1 r
  exact str_of_int_or (I.ok.hd hc) (no_digits I d) (fun _ => ⟨.str _, H, I.tok _, ⟨_, rfl⟩, q⟩) fun big => absurd hi (Nat.not_lt.mpr big)
/-- {x}: a text or such an int -/
def tFmtB (te : TE) : TE := fun σ H Q => te σ H fun x H1 => (∃ y : Str, x = .str y ∧ y.length ≤ sizeLine ∧ Q (.str y) H1) ∨ ∃ i : Int, x = .int i ∧ Short i ∧ Q (.str (toString i)) H1
theorem pe_fmtB {e : Expr} {te : TE} {pos : Pos} (hc : X.calm = true) (d : DigK X.K) (he : PE X e te) : PE X (.FormattedValue e (-1) none pos) (tFmtB te) := by
  constructor
  intro pins s σ H Q I h
  refine wpAny_FormattedValue_plain (thn (he.run pins s σ H _ I h) fun v s1 hv => ?_)
  obtain ⟨x, H1, I1, r1, q⟩ := hv
  rcases q with ⟨y, rfl, hz, q⟩ | ⟨i, rfl, hi, q⟩
  · obtain ⟨t, rfl⟩ := r1
    exact wpAny_formatField_str ⟨.str y, H1, I1, ⟨t, rfl⟩, q⟩ ⟨.str y, H1, I1.tok _, ⟨_, rfl⟩, q⟩ hz
  · obtain ⟨t, rfl⟩ := r1
    exact formatField_int (I.ok.hd hc) (no_digits I1 d) (fun _ => ⟨.str (toString i), H1, I1.tok _, ⟨_, rfl⟩, q⟩) fun big => absurd hi (Nat.not_lt.mpr big)
end
end Lay

set_option Elab.async false
set_option linter.all false
set_option maxRecDepth 100000
set_option maxHeartbeats 4000000
namespace Lay
open PySem PySem.Spec PyProof.Rows L2 PySem.NumText
theorem lim_is {M : Model} {A : Around} {E : Value → Shared → Prop} {s : Shared} {Q : Nat → Shared → Prop} (hn : s.heap.NoDigits) (h : Q 4300 s) : wpAny M A Builtin.intMaxStrDigits Q E s := by
  obtain ⟨mc, hns, hz⟩ := hn
  unfold Builtin.intMaxStrDigits
  refine wpAny_bind (wpAny_nsGet hns ?_)
  rw [hz]
  exact wpAny_pure h
theorem text_long {M : Model} {A : Around} {E : Value → Shared → Prop} {s : Shared} {Q : Value → Shared → Prop} {v : Value} {text : List Nat} {n : Int} (hn : s.heap.NoDigits)
    (hs : ¬ (text.takeWhile (· != 0)).length ≤ 640) (hr : (int_private% "readNumeral") 4300 10 (text.takeWhile (· != 0)) = (int_private% "Numeral.value") n)
    (ha : ((text.takeWhile (· != 0)).length == text.length) = true) (h : Q (.int n s.toks) { s with toks := s.toks + 1 }) :
    wpAny M A ((int_private% "intFromText") v text 10) Q E s := by
  obtain ⟨hp, g, d, tk, os⟩ := s
  have gone : wpAny M A Builtin.intMaxStrDigits (fun k s' => k = 4300 ∧ s' = ⟨hp, g, d, tk, os⟩) E ⟨hp, g, d, tk, os⟩ := lim_is hn ⟨rfl, rfl⟩
  repeat (any_goals (first
    | assumption
    | (with_reducible refine wpAny_ite_false (decide_eq_false hs) ?_)
    | (with_reducible refine wpAny_mono gone ?_ (fun _ _ z => z); rintro k s' ⟨rfl, rfl⟩)
    | (with_reducible refine wpAny_ite_true (decide_eq_true ha) ?_)
    | wp_step))
  all_goals (try rw [hr])
  all_goals (try dsimp only)
  repeat (any_goals (first
    | assumption
    | (with_reducible refine wpAny_ite_true (decide_eq_true ha) ?_)
    | wp_step))
/-- what int(text) asks of the text -/
structure Txt10 (x : PySem.Str) (n : Int) : Prop where
  whole : ((numSeenOf x).length == (numTextOf x).length) = true
  sh : (numSeenOf x).length ≤ 640 → (int_private% "readNumeral") 0 10 (numSeenOf x) = (int_private% "Numeral.value") n
  lo : ¬ (numSeenOf x).length ≤ 640 → (int_private% "readNumeral") 4300 10 (numSeenOf x) = (int_private% "Numeral.value") n
theorem txt10 {x : PySem.Str} {n : Int} (hl : x.length ≤ 4300) (hn : PySem.intText? x = some n) : Txt10 x n := by
  have fits : x.length ≤ sizeLine := Nat.le_trans hl (by decide)
  rcases read4300 x fits with ⟨m, h1, h2, h3⟩ | ⟨h1, _⟩
  · rw [hn] at h1
    obtain rfl := Option.some.inj h1
    refine ⟨h2, fun hs => ?_, fun _ => h3⟩
    rcases read0 x hs with ⟨m', k1, k2, k3⟩ | ⟨k1, _⟩
    · rw [hn] at k1
      obtain rfl := Option.some.inj k1
      exact k3
    · rw [hn] at k1
      cases k1
  · rw [hn] at h1
    cases h1
theorem text_any {M : Model} {A : Around} {E : Value → Shared → Prop} {s : Shared} {Q : Value → Shared → Prop} {v : Value} {x : PySem.Str} {n : Int} (hn : s.heap.NoDigits) (t : Txt10 x n)
    (h : Q (.int n s.toks) { s with toks := s.toks + 1 }) : wpAny M A ((int_private% "intFromText") v (numTextOf x) 10) Q E s := by
  by_cases hs : (numSeenOf x).length ≤ 640
  · exact PySem.W.KIN.wp_text hs (t.sh hs) t.whole h
  · exact text_long hn hs (t.lo hs) t.whole h
structure Hide (p : Prop) : Prop where
  out : p
theorem meets_text {x : PySem.Str} {u : Tok} {n : Int} (t : Txt10 x n) :
    Meets (Builtin.«int.__new__» ⟨[.type "int", .str x u], []⟩) (fun _ R s => s.heap.NoDigits ∧ R (.ok (.ret (.int n s.toks))) { s with toks := s.toks + 1 }) := by
  intro prog w A R s ⟨hn, h⟩
  obtain ⟨hp, g, d, tk, os⟩ := s
  have f1 := F.conv_sub_int
  have f2 := F.madeHere_int
  have f3 := PySem.W.KIN.str_int
  have f4 := PySem.W.KIN.str_idx
  have f5 := PySem.W.KIN.str_trunc
  have f6 : typeOf (.str x u) = pure (.type "str") := rfl
  have hk := Hide.mk (And.intro hn t)
  clear hn t
  repeat (any_goals (first
    | assumption
    | ((with_reducible show wpAny _ _ ((int_private% "intFromText") _ _ _) _ _ _); refine text_any hk.out.1 hk.out.2 ?_)
    | wp_step))
  all_goals first | exact h | skip
section
variable {X : Cx}
/-- int(text) of at most 4,300 signs -/
theorem call_intTxt (d : DigK X.K) : CallR X (.type "int") (fun xs H Q => ∃ a n, xs = [.str a] ∧ PySem.intText? a = some n ∧ a.length ≤ 4300 ∧ Q (.int n) H) := by
  intro pins s σ H xs us Q I r h
  obtain ⟨a, n, rfl, hn, hl, q⟩ := h
  obtain ⟨u, rfl, t, rfl⟩ := vals1 r
  refine call_int_1 (meets_text (txt10 hl hn)) ⟨no_digits I d, ?_⟩
  exact ⟨typeIs_int _ _ _, ⟨.int n, H, I.tok _, ⟨_, rfl⟩, q⟩⟩
end
end Lay

set_option Elab.async false
set_option linter.all false
set_option maxRecDepth 100000
set_option maxHeartbeats 4000000
/-! LayC: iterators end, tuples are taken apart, whether an exception is handled or not -/
namespace Lay
open PySem PySem.Spec PyProof.Rows L2 HotX
section
variable {prog : Program} {w : World} {A : Around} {E : Value → Shared → Prop} {s : Shared}
/-- nothing is handled, or an exception whose context is None -/
def Hand (A : Around) (h : Heap) : Prop := A.handled = none ∨ ∃ x1, HotAt A x1 h
theorem hot_up {x1 : Addr} {h h' : Heap} (a : HotAt A x1 h) (k : ∀ o vs, h.get? x1 = some o → o.data = .fields vs → vs[2]? = some .none → h'.get? x1 = some o) : HotAt A x1 h' := by
  obtain ⟨hh, o, vs, e1, e2, e3⟩ := a
  exact ⟨hh, o, vs, k o vs e1 e2 e3, e2, e3⟩
/-- a StopIteration is made and raised where one is handled -/
theorem stop_hot {α : Type} {x1 : Addr} {Q : α → Shared → Prop} (hot : HotAt A x1 s.heap)
    (hE : ∀ (a : Addr) (h' : Heap), (∀ b o, s.heap.get? b = some o → h'.get? b = some o) → (∃ o, h'.get? a = some o ∧ o.cls = .type "StopIteration") → E (.ref a) { s with heap := h' }) :
    wpAny (model prog w) A (newExc (.type "StopIteration") [] >>= fun e => (raiseNew e : Sem α)) Q E s := by
  refine wpAny_bind ?_
  simp only [newExc, newTuple]
  refine wpAny_bind (wpAny_newObj_type ?_ (by size_fits))
  refine wpAny_bind (m := firstArgMember _ _) (wpAny_of_eq (a := Value.none) (by first | rfl | (simp only [firstArgMember]; rfl)) ?_)
  refine wpAny_newObj_type ?_ (by size_fits)
  have up : ∀ (o1 o2 : Obj) b o, s.heap.get? b = some o → ((s.heap.push o1).push o2).get? b = some o := fun _ _ b o e => Heap.get?_push_of_some _ (Heap.get?_push_of_some _ e)
  obtain ⟨hh, o1, vs1, e1, e2, e3⟩ := hot
  refine raiseNew_hot ⟨hh, o1, vs1, up _ _ _ _ e1, e2, e3⟩ (Nat.ne_of_lt (Heap.lt_size (Heap.get?_push_of_some _ e1))) (Heap.get?_push_size _ rfl) rfl (by first | (simp; done) | (simp; omega) | (simp only [Array.size_append]; simp; omega)) ?_
  refine hE _ _ (fun b o e => ?_) ⟨_, Heap.get?_update_self _ (Heap.get?_push_size _ rfl) rfl, rfl⟩
  rw [Heap.get?_update_other _ _ (Nat.ne_of_gt (Heap.lt_size (Heap.get?_push_of_some _ e)))]
  exact up _ _ _ _ e
theorem list_end_hot {it l x1 : Addr} {i : Nat} {items} {Q : Option Value → Shared → Prop} (hot : HotAt A x1 s.heap) (hit : s.heap.IsListIter it l i) (hl : s.heap.IsList l items) (hx : items[i]? = none)
    (hQ : ∀ h', Heap.ExtBut it s.heap h' → Q none { s with heap := h' }) : wpAny (model prog w) A (pyNext (.ref it)) Q E s := by
  obtain ⟨o, ho, hc, hd⟩ := id hit
  obtain ⟨ol, hol, _, nl, hdl⟩ := hl
  have hne : x1 ≠ it := by
    rintro rfl
    obtain ⟨_, o1, vs1, e1, e2, e3⟩ := hot
    rw [ho] at e1
    obtain rfl := Option.some.inj e1
    rw [hd] at e2
    cases e2
    simp at e3
  unfold pyNext
  refine wpAny_bind (wpAny_attempt (wpAny_callSpecial?_slot (name := Str.ofString "__next__") hit.typeIs slot_listiter_next (wpAny_call_entry slot_listiter_next hit.typeIs entry_listiter_next ?_ (args_listiter_next _))))
  show wpAny _ _ (field (.ref it) 0 >>= _) _ _ s
  refine wpAny_bind (wpAny_field ho hd (x := .ref l) rfl ?_)
  show wpAny _ _ (ite _ _ _) _ _ s
  rw [if_neg (show ¬ ((Value.ref l == Value.none) = true) from Bool.false_ne_true)]
  show wpAny _ _ (field (.ref it) 1 >>= _) _ _ s
  refine wpAny_bind (wpAny_field ho hd (x := .int i 0) rfl ?_)
  show wpAny _ _ (seqItems? (.ref l) >>= _) _ _ s
  refine wpAny_bind (wpAny_seqItems hol hdl ?_)
  simp only [Int.toNat_natCast, hx]
  refine wpAny_bind (wpAny_rule (wpAny_bind (wpAny_setField ho hd (by simp) ?_)))
  refine stop_hot (x1 := x1) (hot_up hot fun o1 _ e _ _ => (Heap.get?_update_other _ _ (Ne.symm hne)).trans e) fun a h' k t => ?_
  refine wpAny_bind (wpAny_isInstance (T := "StopIteration") (b := true) t isSubtype_stop ?_)
  exact wpAny_pure (hQ _ fun b ob hb e => k b ob ((Heap.get?_update_other _ _ (Ne.symm hb)).trans e))
theorem tup_end_hot {it t x1 : Addr} {i : Nat} {items} {Q : Option Value → Shared → Prop} (hot : HotAt A x1 s.heap) (hit : IsTupIter s.heap it t i) (ht : IsTup s.heap t items) (hx : items[i]? = none)
    (hQ : ∀ h', Heap.ExtBut it s.heap h' → Q none { s with heap := h' }) : wpAny (model prog w) A (pyNext (.ref it)) Q E s := by
  obtain ⟨o, ho, hc, hd⟩ := id hit
  obtain ⟨ot, hot', _, nt, hdt⟩ := ht
  have hne : x1 ≠ it := by
    rintro rfl
    obtain ⟨_, o1, vs1, e1, e2, e3⟩ := hot
    rw [ho] at e1
    obtain rfl := Option.some.inj e1
    rw [hd] at e2
    cases e2
    simp at e3
  unfold pyNext
  refine wpAny_bind (wpAny_attempt (wpAny_callSpecial?_slot (name := Str.ofString "__next__") hit.typeIs slot_tupleiter_next (wpAny_call_entry slot_tupleiter_next hit.typeIs entry_tupleiter_next ?_ (args_tupleiter_next _))))
  show wpAny _ _ (field (.ref it) 0 >>= _) _ _ s
  refine wpAny_bind (wpAny_field ho hd (x := .ref t) rfl ?_)
  show wpAny _ _ (ite _ _ _) _ _ s
  rw [if_neg (show ¬ ((Value.ref t == Value.none) = true) from Bool.false_ne_true)]
  show wpAny _ _ (field (.ref it) 1 >>= _) _ _ s
  refine wpAny_bind (wpAny_field ho hd (x := .int i 0) rfl ?_)
  show wpAny _ _ (seqItems? (.ref t) >>= _) _ _ s
  refine wpAny_bind (wpAny_seqItems hot' hdt ?_)
  simp only [Int.toNat_natCast, hx]
  refine wpAny_bind (wpAny_rule (wpAny_bind (wpAny_setField ho hd (by simp) ?_)))
  refine stop_hot (x1 := x1) (hot_up hot fun o1 _ e _ _ => (Heap.get?_update_other _ _ (Ne.symm hne)).trans e) fun a h' k t => ?_
  refine wpAny_bind (wpAny_isInstance (T := "StopIteration") (b := true) t isSubtype_stop ?_)
  exact wpAny_pure (hQ _ fun b ob hb e => k b ob ((Heap.get?_update_other _ _ (Ne.symm hb)).trans e))
theorem list_end_any {it l : Addr} {i : Nat} {items} {Q : Option Value → Shared → Prop} (hand : Hand A s.heap) (hit : s.heap.IsListIter it l i) (hl : s.heap.IsList l items) (hx : items[i]? = none)
    (hQ : ∀ h', Heap.ExtBut it s.heap h' → Q none { s with heap := h' }) : wpAny (model prog w) A (pyNext (.ref it)) Q E s := by
  rcases hand with hh | ⟨x1, hot⟩
  · exact wpAny_pyNext_list_end hh hit hl hx hQ
  · exact list_end_hot hot hit hl hx hQ
theorem tup_end_any {it t : Addr} {i : Nat} {items} {Q : Option Value → Shared → Prop} (hand : Hand A s.heap) (hit : IsTupIter s.heap it t i) (ht : IsTup s.heap t items) (hx : items[i]? = none)
    (hQ : ∀ h', Heap.ExtBut it s.heap h' → Q none { s with heap := h' }) : wpAny (model prog w) A (pyNext (.ref it)) Q E s := by
  rcases hand with hh | ⟨x1, hot⟩
  · exact next_tuple_end hh hit ht hx hQ
  · exact tup_end_hot hot hit ht hx hQ
theorem hand_up {h h' : Heap} (a : Hand A h) (k : ∀ b o vs, h.get? b = some o → o.data = .fields vs → 3 ≤ vs.size → h'.get? b = some o) : Hand A h' := by
  rcases a with hh | ⟨x1, hot⟩
  · exact .inl hh
  · refine .inr ⟨x1, hot_up hot fun o vs e1 e2 e3 => k x1 o vs e1 e2 ?_⟩
    exact (Array.getElem?_eq_some_iff.mp e3).1
/-- a, b, .. = a tuple -/
theorem unpack_any {t : Addr} {items : Array Value} {Q : List Value → Shared → Prop} (hand : Hand A s.heap) (ht : IsTup s.heap t items)
    (hQ : ∀ h', Heap.ExtBut s.heap.objs.size s.heap h' → Q items.toList { s with heap := h' }) : wpAny (model prog w) A (unpackItems (.ref t) items.size none) Q E s := by
  have hlt : t ≠ s.heap.objs.size := by
    obtain ⟨o, ho, _⟩ := ht
    exact Nat.ne_of_lt (Heap.lt_size ho)
  unfold unpackItems
  refine wpAny_bind ?_
  unfold notIterableAtAll
  refine wpAny_bind (wpAny_specialOf ht.typeIs slot_tuple_iter.lookup (wpAny_pure ?_))
  simp only [Bool.false_eq_true, if_false]
  refine wpAny_bind (wpAny_holding (iter_tuple ht ?_))
  refine wpAny_bind (wpAny_holding (draw_tuple hlt items.size 0 _ _ ⟨_, Heap.get?_push_size _ rfl, rfl, rfl⟩ (ht.push _) (by omega) fun h₁ hit₁ hs₁ => ?_))
  have hall : List.take items.size (List.drop 0 items.toList) = items.toList := by
    rw [List.drop_zero]
    exact List.take_of_length_le (by simp)
  rw [hall, if_neg (by simp)]
  have ht₁ : IsTup h₁ t items := (ht.push _).extBut hs₁.extBut hlt
  have up : ∀ b o, s.heap.get? b = some o → h₁.get? b = some o := fun b o e => hs₁.extBut b o (Nat.ne_of_lt (Heap.lt_size e)) (Heap.get?_push_of_some _ e)
  refine wpAny_bind (wpAny_holding (tup_end_any (s := { s with heap := h₁ }) (hand_up hand fun b o _ e _ _ => up b o e) hit₁ ht₁ (by simp) fun h₂ he₂ => ?_))
  simp only [Option.isSome_none, Bool.false_eq_true, if_false]
  exact wpAny_pure (hQ h₂ fun b o hb e => he₂ b o hb (up b o e))
end
/-- the context's own word for it -/
def HandX (X : Cx) : Prop := ∀ (pins : List (Addr × Obj)) (σ : L2.St) (H : Hp) (s : Shared), Inv X pins σ H s → Hand X.A s.heap
theorem handX_calm {X : Cx} (hc : X.calm = true) : HandX X := fun _ _ _ _ I => .inl (I.ok.hd hc)
theorem handX_hot {X : Cx} (hc : L2H.HotC X) : HandX X := fun _ _ _ _ I => .inr (hc.at I)
section
variable {X : Cx} {pos : Pos}
theorem pg_tupH {es : List Expr} {k : Nat} {t : TGs} {n : Nat} (hc : HandX X) (h : PGs X es t)
    (hn : (assignEach es X.env).length = n := by rfl) (hst : (assignEach es X.env).findIdx? (·.1) = none := by rfl) : PG X (.Tuple es k pos) (gTup X.K n t) := by
  constructor
  intro pins s σ H v u Q I r hw
  obtain ⟨a, xs, rfl, hq, hl, hw⟩ := hw
  cases r
  obtain ⟨its, rv, ht, hz⟩ := I.tuple hq
  have hlen : (assignEach es X.env).length = its.toArray.size := by simp [hn, ← hl, rv.length]
  rw [assign_Tuple]
  refine wpAny_bind (wpAny_standAt ?_)
  unfold unpack
  rw [hlen, hst]
  refine wpAny_bind (wpAny_holding (unpack_any (hc _ _ _ _ I) ht fun h' hx => ?_))
  have I1 : Inv X pins σ H { s with heap := h' } := I.kept (t' := s.toks) fun b o e => hx b o (Nat.ne_of_lt (Heap.lt_size e)) e
  exact h.run pins _ σ H xs _ Q I1 (by simpa using rv) hw
end
end Lay

set_option Elab.async false
set_option linter.all false
set_option maxRecDepth 100000
set_option maxHeartbeats 4000000
/-! LayD: a list comprehension whose turns leave the heap alone, also where an exception is handled -/
namespace Lay
open PySem PySem.Spec PyProof.Rows L2 HotX
/-- calm, or one known exception is handled -/
def Warm (X : Cx) : Prop := X.calm = true ∨ L2H.HotC X
theorem Warm.hand {X : Cx} (w : Warm X) : HandX X := w.elim handX_calm handX_hot
/-- the block's context that keeps the pinned exception in sight -/
abbrev blkP (X : Cx) (s : Shared) (H : Hp) (scope : Scope) (cenv : Env) (fp : List Addr) : Cx := (X.blk s H scope cenv fp).tr X.pn (fun _ _ => False)
theorem Warm.blk {X : Cx} (w : Warm X) {s : Shared} {H : Hp} {scope : Scope} {cenv : Env} {fp : List Addr} : Warm (blkP X s H scope cenv fp) := w
def tLcW (K : PySem.W.Frag) (tl : TE) (g : TG) (tt : TT) (te : TE) (vs : List Nat) : TE := fun σ H Q => tl σ H fun x H1 => ∃ a xs, ∃ f : V → Option V, x = .ref a ∧ SqL K H1 a xs ∧
  (∀ D acc y, H1 D = none → y ∈ xs → g y (wipe σ vs) (upd H1 D (.lst acc)) fun σ2 H2 => H2 = upd H1 D (.lst acc) ∧ wipe σ2 vs = wipe σ vs ∧ tt σ2 H2 fun b H3 => H3 = H2 ∧
    match f y with
    | none => b = false
    | some z => b = true ∧ te σ2 H2 fun z' H4 => H4 = H2 ∧ z' = z) ∧
  ∀ D, H1 D = none → Q (.ref D) (upd H1 D (.lst (xs.filterMap f)))
section
variable {X : Cx}
theorem lcW_at {elt tg l : Expr} {ifs : List Expr} {scope : Scope} {own : List (Str × Nat)} {pos : Pos} {tl : TE} {g : TG} {tt : TT} {te : TE} {pins : List (Addr × Obj)} {s : Shared} {σ : L2.St} {H : Hp} {Q : VK} (hw : Warm X) (hN : X.N.Nodup)
    (hl : ∀ R : VK, tl σ H R → wpAny (model X.prog X.w) X.A (eval l X.env) (EP X pins σ R) X.xe s) (ok : BlkOk X.N X.env.scope scope own)
    (hg : ∀ s H C cl fp, PG (blkP X s H scope (compEnvC scope cl C X.env) fp) tg g) (ht : ∀ s H C cl fp, PTs (blkP X s H scope (compEnvC scope cl C X.env) fp) ifs tt)
    (he : ∀ s H C cl fp, PE (blkP X s H scope (compEnvC scope cl C X.env) fp) elt te) (I : L2.Inv X pins σ H s) (h : tLcW X.K tl g tt te (own.map (·.2)) σ H Q) (hs : ∀ x, foldedSetIterable l X.env x = pure x := by intro _; rfl) :
    wpAny (model X.prog X.w) X.A (eval (.ListComp elt [⟨tg, l, ifs, 0⟩] scope pos) X.env) (EP X pins σ Q) X.xe s := by
  rw [eval_ListComp]
  have caught : ∀ y ∈ scope.names, y.2 = .free → ∃ c, X.env.cells.lookup y.1 = some c := fun y hy e => I.ok.has _ ((ok.free y hy e).imp id id)
  refine wpAny_comprehension_free (use := none) rfl hs (closure_ok caught) ok.kind (fun y hy e => by rw [ok.uniq y hy, e]) (thn (hl _ h) ?_)
  rintro u s1 ⟨x, H1, I1, r1, a, xs, f, rfl, sq, step, fin⟩
  cases r1
  obtain ⟨its, rv, isl, hz⟩ := I1.list sq
  refine wpAny_pyIter_list isl.isList ?_
  generalize hit : s1.heap.objs.size = it
  generalize e2 : ({ heap := s1.heap.push { cls := Value.type "list_iterator", data := Data.fields #[Value.ref a, Value.int 0 0] }, gens := s1.gens, drawn := s1.drawn, toks := s1.toks, os := s1.os } : Shared) = s2
  have w2 : s2.heap = s1.heap.push { cls := Value.type "list_iterator", data := Data.fields #[Value.ref a, Value.int 0 0] } := by rw [← e2]
  have keep12 : ∀ b o, s1.heap.get? b = some o → s2.heap.get? b = some o := fun b o e => by rw [w2]; exact Heap.get?_push_of_some _ e
  have I2 : L2.Inv X pins σ H1 s2 := e2 ▸ I1.kept (t' := s1.toks) fun b o e => Heap.get?_push_of_some _ e
  have li2 : s2.heap.IsListIter it a 0 := ⟨_, by rw [w2, ← hit]; exact Heap.get?_push_size _ rfl, rfl, rfl⟩
  refine wpAny_newObj_type (newEnv_comp ?_) (by show 0 ≤ sizeLine; decide)
  generalize hD : s2.heap.objs.size = D
  have noD : H1 D = none := I2.hok.fresh (Nat.le_of_eq hD)
  have itD : it ≠ D := by
    obtain ⟨o, e, _⟩ := li2
    rw [← hD]
    exact Nat.ne_of_lt (Heap.lt_size e)
  generalize e3 : ({ s2 with heap := s2.heap.push { cls := .type "list", data := .seq ([] : List Value).toArray } } : Shared) = s3
  have w3 : s3.heap = s2.heap.push { cls := .type "list", data := .seq ([] : List Value).toArray } := by rw [← e3]
  have keep23 : ∀ b o, s2.heap.get? b = some o → s3.heap.get? b = some o := fun b o e => by rw [w3]; exact Heap.get?_push_of_some _ e
  have I3 : L2.Inv X pins σ (upd H1 D (.lst [])) s3 := by
    have newL : ObjOk X.prog X.w (upd H1 D (.lst [])) (s2.heap.push { cls := .type "list", data := .seq ([] : List Value).toArray }) D (.lst []) := ⟨Nat.zero_le _, [], 0, .nil, by rw [← hD]; exact Heap.get?_push_size _ rfl⟩
    exact e3 ▸ I2.laid (t' := s2.toks) (fun b o e => Heap.get?_push_of_some _ e) (Nat.le_of_eq hD) newL
  have li3 : s3.heap.IsListIter it a 0 := li2.at fun o e => keep23 it o e
  have fresh_it : ∀ {H' : Hp}, H' it = none → FpOk X pins H' it := fun n => I1.fpOk (Nat.le_of_eq hit) n
  have nit : H1 it = none := I1.hok.fresh (Nat.le_of_eq hit)
  have B := block_start (fp := [it]) I3 ok hN (fun b hb => by
    obtain rfl : b = it := by simpa using hb
    obtain ⟨o, e, _⟩ := li3
    exact ⟨fresh_it (by rw [upd_ne itD]; exact nit), Heap.lt_size e⟩)
  have pg := hg s3 (upd H1 D (.lst [])) s3.heap.objs.size (cellsFrom (s3.heap.objs.size + 1) scope.names (cloFrom X.env.cells scope.names [])) [it]
  have pt := ht s3 (upd H1 D (.lst [])) s3.heap.objs.size (cellsFrom (s3.heap.objs.size + 1) scope.names (cloFrom X.env.cells scope.names [])) [it]
  have pe := he s3 (upd H1 D (.lst [])) s3.heap.objs.size (cellsFrom (s3.heap.objs.size + 1) scope.names (cloFrom X.env.cells scope.names [])) [it]
  show codeAny _ _ (.compStart (.ListComp elt [⟨tg, l, ifs, 0⟩] scope pos) 0 (.ref it) (.ref D) (compEnvC scope (cellsFrom (s3.heap.objs.size + 1) scope.names (cloFrom X.env.cells scope.names [])) s3.heap.objs.size X.env))
    (compPost (model X.prog X.w) X.A X.xe none (EP X pins σ Q) (.ref D) s3.heap.objs.size) { s3 with heap := pushCells (s3.heap.push { cls := .type "dict", data := .dict #[] }) scope.names }
  generalize hce : compEnvC scope (cellsFrom (s3.heap.objs.size + 1) scope.names (cloFrom X.env.cells scope.names [])) s3.heap.objs.size X.env = ce at B pg pt pe ⊢
  have ceL : ce.locals = s3.heap.objs.size := by rw [← hce]; rfl
  generalize e4 : ({ s3 with heap := pushCells (s3.heap.push { cls := .type "dict", data := .dict #[] }) scope.names } : Shared) = s4 at B ⊢
  have keep34 : ∀ b o, s3.heap.get? b = some o → s4.heap.get? b = some o := fun b o e => by rw [← e4]; exact pushCells_keeps _ _ _ _ (Heap.get?_push_of_some _ e)
  have li4 : s4.heap.IsListIter it a 0 := li3.at fun o e => keep34 it o e
  have J4 : L2.Inv (blkP X s3 (upd H1 D (.lst [])) scope ce [it]) [] (wipe σ (own.map (·.2))) (upd H1 D (.lst [])) s4 := by
    refine ⟨B.ok.toTry _ _, B.os, B.bare, B.base, B.loc, B.cell, B.free, B.freeC, fun p hp => ?_, B.hok, B.len⟩
    have hp' : p ∈ X.pn := by simpa using hp
    obtain ⟨p1, p2, p3, p4, p5⟩ := I3.pin p (List.mem_append_left _ hp')
    refine ⟨keep34 _ _ p1, p2, ?_, fun z => ?_, p5⟩
    · show p.1 ≠ ce.locals
      rw [ceL]
      exact Nat.ne_of_lt (Heap.lt_size p1)
    · rcases List.mem_cons.mp (I3.stkSub _ z) with z | z
      · exact p3 z
      · exact p4 z
  have sqD : ∀ acc, SqL X.K (upd H1 D (.lst acc)) a xs := fun acc => SqL.ext sq (Ext.upd noD)
  -- the loop
  have loop : codeAny (model X.prog X.w) X.A (.compLoop (.ListComp elt [⟨tg, l, ifs, 0⟩] scope pos) 0 (.ref it) (.ref D) ce) (compPost (model X.prog X.w) X.A X.xe none (EP X pins σ Q) (.ref D) s3.heap.objs.size) s4 := by
    refine compLoop_any (fun n s' => ∃ i, i ≤ xs.length ∧ n = xs.length - i ∧ L2.Inv (blkP X s3 (upd H1 D (.lst [])) scope ce [it]) [] (wipe σ (own.map (·.2))) (upd H1 D (.lst ((xs.take i).filterMap f))) s' ∧ s'.heap.IsListIter it a i) ?_ xs.length
      ⟨0, Nat.zero_le _, rfl, by rw [List.take_zero]; exact J4, li4⟩
    rintro n s5 ⟨i, hi, rfl, I5, li5⟩
    obtain ⟨its5, rv5, isl5, hz5⟩ := I5.list (sqD ((xs.take i).filterMap f))
    have len5 := rv5.length
    have fine : ∀ {s' : Shared} {H' : Hp} {σ' : L2.St}, L2.Inv (blkP X s3 (upd H1 D (.lst [])) scope ce [it]) [] σ' H' s' → H' it = none → FpOk (blkP X s3 (upd H1 D (.lst [])) scope ce [it]) [] H' it := fun I' n' => by
      refine ⟨n', (I'.ok.exf it (List.mem_singleton.mpr rfl)).1, I'.ok.exfs it (List.mem_singleton.mpr rfl), .inl (List.mem_singleton.mpr rfl), fun x c e => (I'.ok.exf it (List.mem_singleton.mpr rfl)).2 x c e, fun p hp z => ?_⟩
      have hp' : p ∈ X.pn := by simpa using hp
      have q := (I1.pin p (List.mem_append_left _ hp')).1
      rw [z, ← hit] at q
      exact absurd (Heap.lt_size q) (Nat.lt_irrefl _)
    have n5 : ∀ acc, upd H1 D (.lst acc) it = none := fun acc => by rw [upd_ne itD]; exact nit
    obtain ⟨f0, f1, f2, f3, f4, f5⟩ := fine I5 (n5 _)
    by_cases hlt : i < xs.length
    · have hx : xs[i]? = some xs[i] := List.getElem?_eq_getElem hlt
      obtain ⟨u, hu, ru⟩ := rv5.get hx
      refine thnF (wpAny_pyNext_list_item (Q := fun r s' => r = some u ∧ ∃ h', s' = { s5 with heap := h' } ∧ h'.IsListIter it a (i + 1) ∧ Heap.SameBut it s5.heap h') li5 isl5.isList (x := u) (by simpa using hu) fun h' st' sb => ⟨rfl, h', rfl, st', sb⟩) ?_
      rintro r s6 ⟨rfl, h', rfl, st', sb⟩
      have I6 : L2.Inv (blkP X s3 (upd H1 D (.lst [])) scope ce [it]) [] (wipe σ (own.map (·.2))) (upd H1 D (.lst ((xs.take i).filterMap f))) { s5 with heap := h' } := I5.turned (t' := s5.toks) (fun b o hb e => (sb.2 b hb).trans e) f0 f1 f3 f4 f5
      obtain ⟨oi, ei, ci, di⟩ := id st'
      refine thnF (go_of (Q := fun _ s' => s' = { s5 with heap := h' }) (s := { s5 with heap := h' }) ei ci di (by decide) rfl) ?_
      rintro _ s7 rfl
      have I7 := I6.pinned (fp := [it]) (fun b hb => by obtain rfl : b = it := by simpa using hb
                                                        exact fine I6 (n5 _)) (fun b hb => by obtain rfl : b = it := by simpa using hb
                                                                                              exact ⟨oi, ei, fun v z => by rw [di] at z; cases z⟩)
      refine thnF (pg.run _ _ _ _ xs[i] u _ I7 ru (step D _ xs[i] noD (List.getElem_mem hlt))) ?_
      rintro _ s8 ⟨σ8, H8, I8, rfl, w8, q8⟩
      refine thnF (pt.run _ s8 σ8 _ _ I8 q8) ?_
      rintro b s9 ⟨H9, I9, rfl, q9⟩
      -- the end of a turn
      have next : ∀ {s' : Shared}, L2.Inv (blkP X s3 (upd H1 D (.lst [])) scope ce [it]) ([] ++ pinsAt [it] h') σ8 (upd H1 D (.lst ((xs.take (i + 1)).filterMap f))) s' →
          ∃ m, m < xs.length - i ∧ ∃ i', i' ≤ xs.length ∧ m = xs.length - i' ∧ L2.Inv (blkP X s3 (upd H1 D (.lst [])) scope ce [it]) [] (wipe σ (own.map (·.2))) (upd H1 D (.lst ((xs.take i').filterMap f))) s' ∧ s'.heap.IsListIter it a i' := fun {s'} I' => by
        have q := (I'.pin (it, oi) (List.mem_append_right _ (List.mem_append_right _ (mem_pinsAt (by simp) ei)))).1
        refine ⟨xs.length - (i + 1), by omega, i + 1, hlt, rfl, (I'.unpinned (pins := [])).weak (by rw [← w8, wipe_length]) fun j v e => ?_, ⟨oi, q, ci, di⟩⟩
        rw [← w8] at e
        exact (wipe_some e).1
      have tk : (xs.take (i + 1)).filterMap f = (xs.take i).filterMap f ++ [xs[i]].filterMap f := by rw [List.take_succ_eq_append_getElem hlt, List.filterMap_append]
      have few : ((xs.take i).filterMap f).length < sizeLine := by
        have a1 := List.length_filterMap_le f (xs.take i)
        rw [List.length_take] at a1
        omega
      cases hf : f xs[i] with
      | none =>
        rw [hf] at q9
        obtain rfl : b = false := q9
        have e : (xs.take (i + 1)).filterMap f = (xs.take i).filterMap f := by rw [tk]; simp [hf]
        rw [if_neg Bool.false_ne_true]
        exact next (e ▸ I9)
      | some z =>
        rw [hf] at q9
        obtain ⟨rfl, q9⟩ := q9
        have e : (xs.take (i + 1)).filterMap f = (xs.take i).filterMap f ++ [z] := by rw [tk]; simp [hf]
        rw [if_pos rfl]
        refine thnF (pe.run _ s9 σ8 _ _ I9 q9) ?_
        rintro v s10 ⟨z', H10, I10, r10, rfl, rfl⟩
        refine app_ok (X := blkP X s3 (upd H1 D (.lst [])) scope ce [it]) I10 upd_same few r10 fun s11 I11 => next ?_
        rw [upd_upd] at I11
        rw [e]
        exact I11
    · have last : i = xs.length := by omega
      subst last
      have hand := (hw.blk (X := X) (s := s3) (H := upd H1 D (.lst [])) (scope := scope) (cenv := ce) (fp := [it])).hand _ _ _ _ I5
      refine thnF (list_end_any (Q := fun r s' => r = none ∧ ∃ h', s' = { s5 with heap := h' } ∧ Heap.ExtBut it s5.heap h') hand li5 isl5.isList (by simp; omega) fun h' eb => ⟨rfl, h', rfl, eb⟩) ?_
      rintro r s6 ⟨rfl, h', rfl, eb⟩
      have I6 : L2.Inv (blkP X s3 (upd H1 D (.lst [])) scope ce [it]) [] (wipe σ (own.map (·.2))) (upd H1 D (.lst ((xs.take xs.length).filterMap f))) { s5 with heap := h' } := I5.turned (t' := s5.toks) (fun b o hb e => eb b o hb e) f0 f1 f3 f4 f5
      rw [List.take_length] at I6
      have back : L2.Inv X pins σ (upd H1 D (.lst (xs.filterMap f))) { s5 with heap := h' } := I3.call' (ch := [it]) I6.os I6.base I6.hok I6.bare fun b hb => by
        obtain rfl : b = it := by simpa using hb
        have g := fresh_it (H' := upd H1 D (.lst [])) (n5 _)
        exact ⟨g.2.2.2.1, g.2.1, g.2.2.2.2.1, g.2.2.2.2.2⟩
      have nC : upd H1 D (.lst (xs.filterMap f)) s3.heap.objs.size = none := ceL ▸ I6.free
      obtain ⟨m, hn, _⟩ := I6.loc
      have hn : Heap.Ns h' s3.heap.objs.size m := ceL ▸ hn
      refine ⟨m, hn, fun h'' sb => ?_⟩
      obtain ⟨g0, g1, g2, g3, g4, g5⟩ := I3.fpOk (Nat.le_refl _) nC
      exact ⟨.ref D, _, back.turned (t' := s5.toks) (fun b o hb e => (sb.2 b hb).trans e) g0 g1 g3 g4 g5, rfl, fin D noD⟩
  exact codeAny_compStart_list loop (wpAny_pyIter_listiter li4 loop)
theorem pe_lcW {elt tg l : Expr} {ifs : List Expr} {scope : Scope} {own : List (Str × Nat)} {pos : Pos} {tl : TE} {g : TG} {tt : TT} {te : TE} (hw : Warm X) (hN : X.N.Nodup) (hl : PE X l tl) (ok : BlkOk X.N X.env.scope scope own)
    (hg : ∀ s H C cl fp, PG (blkP X s H scope (compEnvC scope cl C X.env) fp) tg g) (ht : ∀ s H C cl fp, PTs (blkP X s H scope (compEnvC scope cl C X.env) fp) ifs tt)
    (he : ∀ s H C cl fp, PE (blkP X s H scope (compEnvC scope cl C X.env) fp) elt te) (hs : ∀ x, foldedSetIterable l X.env x = pure x := by intro _; rfl) :
    PE X (.ListComp elt [⟨tg, l, ifs, 0⟩] scope pos) (tLcW X.K tl g tt te (own.map (·.2))) :=
  ⟨fun pins s σ H Q I h => lcW_at hw hN (fun R r => hl.run pins s σ H R I r) ok hg ht he I h hs⟩
end
end Lay

set_option Elab.async false
set_option linter.all false
set_option maxRecDepth 100000
set_option maxHeartbeats 4000000
/-! LayE: defs that are handed the exception which is being handled -/
namespace Lay
open PySem PySem.Spec PyProof.Rows L2 HotX L2H
/-- what a def promises where p is handled; the promise may name p -/
structure FnE (P : Program) (w : World) (K : PySem.W.Frag) (mg : Str → Option Value) (base : Heap) (CX : CXT) (k : Nat) (f : Addr) (fd : FuncData) (ps : List Str) (sp : Addr × Obj → Sp) : Prop where
  many : ∀ p vs H Q E, sp p vs H Q E → vs.length = ps.length
  runs : ∀ (p : Addr × Obj) (A : Around) (outer : List Env) (s : Shared) (H : Hp) (args : Args) (us : List Value) (vs : List V) (Q : VK) (E : XK), RoomH k A ∧ Hot1 A p ∧ PinOk outer H s p → Env0 P w K mg base A outer s H → BindsTo s fd args (ps.zip us) → Vals vs us →
    sp p vs H Q E → codeAny (model P w) A (.call (.ref f) args) (CR CX outer P w H s Q E) s
theorem fn_ofE {CX : CXT} {P : Program} {w : World} {K : PySem.W.Frag} {mg : Str → Option Value} {base : Heap} {k : Nat} {f : Addr} {name qual : Str} {params : Arguments} {body : List Stmt} {scope : Scope} {dV kV doc pm cdv ct oc : Value} {an od : Option Addr}
    {osl : Array (Option Value)} {N ps : List Str} {sp : Addr × Obj → Sp} (lk : K.lookup f = some ⟨oc, od, .func (PySem.W.fnOf name qual params body scope dV kV doc pm an cdv ct), osl⟩) (cd : PySem.W.codeIn K cdv qual = true) (S : FnScope N ps scope)
    (many : ∀ p vs H Q E, sp p vs H Q E → vs.length = ps.length)
    (inside : ∀ (p : Addr × Obj) (A : Around) (outer : List Env) (s : Shared) (H : Hp) (vs : List V) (Q : VK) (E : XK), Hot1 A p → RoomH k (A.deeper (envOfC qual scope s.heap.objs.size f cdv)) → sp p vs H Q E →
      ∃ t, PSs (cxH CX P w K mg base N qual scope f cdv A outer s H E p) body t ∧ t { nx := fun _ H' => Q .non H', rt := Q } (L2.start N vs) H) :
    FnE P w K mg base CX (k + 1) f (PySem.W.fnOf name qual params body scope dV kV doc pm an cdv ct) ps sp := by
  constructor
  · exact many
  · rintro p A outer s H args us vs Q E ⟨room, hot, pin⟩ env0 binds rel prom
    have number := many _ _ _ _ _ prom
    have kept : K.In s.heap := env0.mod.kin.keeps fun b o z => (env0.bs b o z).1
    have unlim : s.heap.NoLimit := env0.mod.nolimit.keeps fun b o z => (env0.bs b o z).1
    have kinds : ∀ y ∈ ps.zip us, scope.names.lookup y.1 = some .local ∨ (scope.names.lookup y.1 = some .cell ∧ ((cellsFrom (s.heap.objs.size + 1) scope.names []).lookup y.1).isSome = true) := by
      rintro ⟨n, v⟩ hy
      exact (S.par n (List.of_mem_zip hy).1).imp id fun q => ⟨q, PySem.W.cellsFrom_some _ _ _ (.inl q)⟩
    refine codeAny_call_function room.depth (kept _ _ lk) rfl S.co S.gen rfl (PySem.W.codeRec_of kept cd) (binds _ _ _ _ (wpAny_newFunctionEnv_cells S.kind kinds ?_))
    rintro env rfl s1 into
    refine ⟨unlim.keeps into.toInCall.keep, codeAny_func ?_⟩
    obtain ⟨t, walk, post⟩ := inside p A outer s H vs Q E hot (room.deeper _) prom
    refine wpAny_mono (walk.run [] s1 (L2.start N vs) H _ (inv_startH S pin env0 number rel into) post) ?_ fun _ _ z => z
    rintro (_ | _ | _ | u) s' out
    all_goals first
      | (obtain ⟨σ', H', J, q⟩ := out; exact ⟨V.non, H', J.os, J.bare, J.base, J.hok, (rfl : Value.none = Value.none), q⟩)
      | (obtain ⟨_, _, _, q⟩ := out; exact q.elim)
      | (obtain ⟨v, σ', H', J, rv, q⟩ := out; exact ⟨v, H', J.os, J.bare, J.base, J.hok, rv, q⟩)
/-- X handles p -/
structure HasP (X : Cx) (p : Addr × Obj) : Prop where
  hot : Hot1 X.A p
  mem : p ∈ X.pn
theorem HasP.warm {X : Cx} {p : Addr × Obj} (h : HasP X p) : Warm X := .inr ⟨p, h.hot, h.mem⟩
theorem HasP.hotC {X : Cx} {p : Addr × Obj} (h : HasP X p) : L2H.HotC X := ⟨p, h.hot, h.mem⟩
section
variable {X : Cx} {CX : CXT} {k : Nat} {f : Addr} {fd : FuncData} {ps : List Str} {sp : Addr × Obj → Sp} {E : L2.St → XK} {x : Str} {q pos : Pos} {e : Expr} {es : List Expr} {t : TA} {p : Addr × Obj}
theorem pe_callE (F : FnE X.prog X.w X.K X.mg X.base CX k f fd ps sp) (room : RoomH k X.A) (hp : HasP X p) (hg : Gl X x) (hm : X.mg x = some (.ref f)) (hk : PySem.W.keepIn X.K (.ref f) = true) (hb : Binds X.K fd ps []) (hx : ∀ σ, PassesAt CX X σ (E σ))
    (ha : PA X (e :: es) t) (hdb : (x == ("__debug__" : Str)) = false := by decide) (he : starEach (e :: es) X.env = (false, eval e X.env) :: starEach es X.env := by rfl) (hpl : (backTo pos (starEach es X.env)).any (·.1) = false := by rfl) :
    PE X (.Call (.Name x q) (e :: es) [] pos) (tCallS (sp p) E t) := by
  constructor
  intro pins s σ H Q I h
  refine wpAny_Call_Name_kw (ld_glob I hg hm ?_ hdb)
  refine PySem.W.callWith_K (h₀ := X.base) I.ok.mod.kin hk (thn (ha.run pos pins s σ H _ I h) ?_) he hpl
  rintro us s1 ⟨vs, H1, I1, r, prom⟩
  refine ⟨I1.kIn, ?_⟩
  have number : us.length = ps.length := r.length.symm.trans (F.many _ _ _ _ _ prom)
  have bound := hb s1 us I1.kIn (by rw [List.append_nil]; exact number)
  rw [List.append_nil] at bound
  obtain ⟨g1, g2, g3, g4, g5⟩ := I1.pin p (List.mem_append_left _ hp.mem)
  have pin : PinOk X.stack H1 s1 p := ⟨g1, g2, fun z => (List.mem_cons.mp (I1.stkSub p.1 z)).elim g3 g4, g5⟩
  refine wpAny_call (codeAny_mono (F.runs p X.A X.stack s1 H1 ⟨us, []⟩ us vs Q (E σ) ⟨room, hp.hot, pin⟩ I1.env0 bound r prom) ?_)
  rintro (er | _ | _ | _ | u) s' out
  all_goals first
    | exact hx σ pins H1 s1 _ s' I1 out
    | exact I1.after out
    | exact False.elim out
/-- the exception's dict stands, if it has one -/
def DictP (H : Hp) (o : Obj) : Prop := o.dict = none ∨ ∃ (dd : Addr) (fs : List (Str × V)), o.dict = some dd ∧ H dd = some (.xd fs)
theorem inst_p {pins : List (Addr × Obj)} {σ : L2.St} {H : Hp} {s : Shared} {D : Addr} (I : L2.Inv X pins σ H s) (hp : p ∈ X.pn) (hc : p.2.cls = .ref D) (hf : ∃ vs, p.2.data = .fields vs) (hd : DictP H p.2) : ∃ od, PySem.W.InstAt s.heap p.1 p.2 D od := by
  obtain ⟨here, _⟩ := I.pin p (List.mem_append_left _ hp)
  obtain ⟨a, oc, od, oda, osl⟩ := p
  obtain ⟨vs, hv⟩ := hf
  dsimp only at hc hv here ⊢
  subst hc hv
  rcases hd with z | ⟨dd, fs, z, t⟩
  · dsimp only at z
    subst z
    exact ⟨none, here, rfl, rfl, trivial⟩
  · dsimp only at z
    subst z
    obtain ⟨mA, ns, _⟩ := (show ObjOk X.prog X.w H s.heap dd (.xd fs) from I.hok dd _ t)
    obtain ⟨o2, h2, _⟩ := lookIn_ns ns
    exact ⟨some o2, here, rfl, rfl, h2⟩
/-- isinstance(e, c), e an exception that stands pinned -/
def rIsP (K : PySem.W.Frag) (D : Addr) (p : Addr × Obj) : List V → Hp → VK → Prop := fun xs H Q => ∃ (c : V) (cv : Value) (b : Bool), xs = [.ref p.1, c] ∧ (∀ u, RelV c u → u = cv) ∧ PySem.W.kitOne K (.ref D) cv = some b ∧ DictP H p.2 ∧ Q (.bl b) H
theorem call_isP {D : Addr} (hp : p ∈ X.pn) (C : ExcC X.K D) (hc : p.2.cls = .ref D) (hf : ∃ vs, p.2.data = .fields vs) : CallR X (.builtin "isinstance") (rIsP X.K D p) := by
  intro pins s σ H xs us Q I r h
  obtain ⟨c, cv, b, rfl, hcv, e, dp, q⟩ := h
  cases r with
  | cons rx rr =>
    cases rr with
    | cons rt rr =>
      cases rr
      cases rx
      obtain rfl := hcv _ rt
      have cl : (PySem.W.clsIn X.K D).isSome = true := by
        obtain ⟨cd, hcd, _⟩ := PySem.W.any_some C.hd
        rw [hcd]; rfl
      obtain ⟨od', J⟩ := inst_p I hp hc hf dp
      exact PySem.W.kia_one (PySem.W.kitx_exc cl C.hg C.hk C.hs C.ha C.hn C.ht C.hm) I.kIn J e (fun z => nomatch z) fun tk => ⟨.bl b, H, I.kept (t' := tk) fun _ _ z => z, rfl, q⟩
/-- e.f -/
def tXp (C : Addr) (p : Addr × Obj) (f : Str) (te : TE) : TE := fun σ H Q => te σ H fun x H1 => x = .ref p.1 ∧ p.2.cls = .ref C ∧ ∃ (dd : Addr) (fs : List (Str × V)) (v : V), p.2.dict = some dd ∧ H1 dd = some (.xd fs) ∧ fs.lookup f = some v ∧ Q v H1
theorem pe_xp {C : Addr} {te : TE} {n : Str} (hp : p ∈ X.pn) (T : XfC X.K C) (hno : PySem.W.findIn X.K (.ref C) n = some none) (hf : ∃ vs, p.2.data = .fields vs) (he : PE X e te) (hb : attributeBase e n X.env (eval e X.env) = eval e X.env := by rfl) :
    PE X (.Attribute e n pos) (tXp C p n te) := by
  constructor
  intro pins s σ H Q I h
  refine attr_of hb (thn (he.run pins s σ H _ I h) ?_)
  rintro u s1 ⟨x, H1, I1, rx, rfl, hc, dd, fs, v, ed, ea, look, q⟩
  obtain rfl : u = Value.ref p.1 := rx
  obtain ⟨here, _⟩ := I1.pin p (List.mem_append_left _ hp)
  obtain ⟨a, oc, od, oda, osl⟩ := p
  obtain ⟨vs, hv⟩ := hf
  dsimp only at hc hv here ed ⊢
  subst hc hv ed
  obtain ⟨mA, ns, rel⟩ := (show ObjOk X.prog X.w H1 s1.heap dd (.xd fs) from I1.hok dd _ ea)
  obtain ⟨o2, h2, hl⟩ := lookIn_ns ns
  obtain ⟨u, hu, ru⟩ := RelO.some_of (v := v) (o := mA n) (by rw [← look]; exact rel n)
  exact HandSPX.exc_get I1.kIn ⟨here, rfl, rfl, h2⟩ T.ga T.gg T.exC (PySem.W.findObj_own T.hdC hno rfl (by rw [hl, hu])) (handed_of ru) ⟨v, H1, I1.tok _, ru, q⟩
end
end Lay

set_option Elab.async false
set_option linter.all false
set_option maxRecDepth 100000
set_option maxHeartbeats 4000000
/-! LayF: try with many clauses, each of them with the same name behind as -/
namespace Lay
open PySem PySem.Spec PyProof.Rows L2 HotX L2H
/-- a clause's test answers m of the exception's class -/
def Tst (X : Cx) (test : Expr) (m : Value → Option Bool) : Prop :=
  ∀ (p : Addr × Obj) (pn pins : List (Addr × Obj)) (σ : L2.St) (H : Hp) (s : Shared) (b : Bool) (Q : Bool → Shared → Prop) (E : Value → Shared → Prop), L2.Inv (X.suite p.1 (p :: pn)) pins σ H s → m p.2.cls = some b →
    (∀ h' tk', (∀ c o, s.heap.get? c = some o → h'.get? c = some o) → Q b { s with heap := h', toks := tk' }) →
    wpAny (model X.prog X.w) (X.A.mark (some (.ref p.1))) (eval test X.env) (fun c s1 => wpAny (model X.prog X.w) (X.A.mark (some (.ref p.1))) (excMatches (.ref p.1) c) Q E s1) E s
theorem tst_name {X : Cx} {x : Str} {c : Value} {np : Pos} (hc : Names X x c) : Tst X (.Name x np) (fun cls => PySem.W.exmOne X.K cls c) := by
  intro p pn pins σ H s b Q E I hm h
  have at_p := (I.pin p (List.mem_append_left _ List.mem_cons_self)).1
  have ty : PySem.W.Looks (model X.prog X.w) s.heap (typeOf (.ref p.1)) p.2.cls := fun A Q E s k q => wpAny_typeOf_ref (k _ _ at_p) q
  have ans := PySem.W.exm_one (M := model X.prog X.w) I.kIn ty hm
  have go : wpAny (model X.prog X.w) (X.A.mark (some (.ref p.1))) (excMatches (.ref p.1) c) Q E s := ans.here (h s.heap s.toks fun _ _ z => z)
  obtain ⟨hg, hdbg, hm | ⟨hm, hv, hnn⟩⟩ := hc
  · exact ld_glob (X := X.suite p.1 (p :: pn)) I hg hm go hdbg
  · exact ld_blt (X := X.suite p.1 (p :: pn)) I hg hm hv go hnn hdbg
/-- the ends of a suite whose name goes -/
def goneD (i : Nat) (D : Ends) : Ends := { nx := fun σ H => D.nx (σ.set i none) H, rt := D.rt, bk := fun σ H => D.bk (σ.set i none) H, ct := fun σ H => D.ct (σ.set i none) H }
abbrev Clause := (Value → Option Bool) × (Addr × Obj → TS)
def wAll (i : Nat) (Wout : WX) (D : Ends) : List Clause → WX
  | [] => Wout
  | (m, ts) :: r => fun cls d σ H => ∃ b, m cls = some b ∧ (b = true → ∀ p : Addr × Obj, p.2.cls = cls → p.2.dict = d → (∃ vs, p.2.data = .fields vs) → H p.1 = none → ts p (goneD i D) (σ.set i (some (.ref p.1))) H) ∧ (b = false → wAll i Wout D r cls d σ H)
inductive HdsA (X : Cx) (n : Str) : List ExceptHandler → List Clause → Prop
  | nil : HdsA X n [] []
  | cons {test : Expr} {m : Value → Option Bool} {ts : Addr × Obj → TS} {b₀ : Stmt} {suite : List Stmt} {pos' : Pos} {hds : List ExceptHandler} {l : List Clause} (ht : Tst X test m)
      (hsu : ∀ (p : Addr × Obj) (pn : List (Addr × Obj)), HasP (X.suite p.1 (p :: pn)) p → (∃ vs, p.2.data = .fields vs) → PSs (X.suite p.1 (p :: pn)) (b₀ :: suite) (ts p)) (r : HdsA X n hds l) :
      HdsA X n (.ExceptHandler (some test) (some n) (b₀ :: suite) pos' :: hds) ((m, ts) :: l)
theorem flying_grow {B h h' : Heap} {outer : List Env} {a : Addr} {Z : Obj → Prop} (f : HandSPX.FlyingZ B outer a Z h) (k : ∀ c o, h.get? c = some o → h'.get? c = some o) : HandSPX.FlyingZ B outer a Z h' := by
  obtain ⟨f1, f2, f3, oe, vs, T, oT, ts, g1, g2, g3, g4, g5, g6, g7, g8, g9⟩ := f
  exact ⟨fun b o z => k b o (f1 b o z), f2, f3.of_keeps fun b o z _ => ⟨o, k b o z, rfl⟩, oe, vs, T, oT, ts, k _ _ g1, g2, g3, g4, g5, g6, k _ _ g7, g8, g9⟩
section
variable {X : Cx} {n : Str} {i : Nat} {body : List Stmt} {h₀ : ExceptHandler} {hds : List ExceptHandler} {l : List Clause} {pos : Pos} {tb : WX → TS} {Wout : WX}
theorem ps_try_all (hs : X.stack = X.env :: X.outer) (hf : X.env.frame = some X.env.locals) (hN : X.N.Nodup) (hi : X.N[i]? = some n) (hln : X.env.kindOf n = some .local) (tk : L2N.Takes X Wout)
    (hb : ∀ (W : WX) (pn : List (Addr × Obj)) (xe : Value → Shared → Prop), L2N.Takes (X.tr pn xe) W → PassesOwn (model X.prog X.w) X.A X.env xe → PSs (X.tr pn xe) body (tb W)) (hh : HdsA X n (h₀ :: hds) l) :
    PS X (.Try body (h₀ :: hds) [] [] pos) (fun D σ H => tb (wAll i Wout D l) D σ H) := by
  constructor
  intro pins s σ H D I h
  have ok := I.ok
  have frm : X.A.frames = some (X.env :: X.outer) := by rw [ok.frames, hs]
  refine wpAny_Try_except (wpAny_mono ((hb (wAll i Wout D l) (X.pn ++ pins) (fun e s₁ => wpAny (model X.prog X.w) X.A (noteFrame e X.env) (fun _ s₂ => wpAny (model X.prog X.w) X.A (setFlight e none)
    (fun _ s₃ => wpAny (model X.prog X.w) X.A (handleBy e X.env (h₀ :: hds)) (SP X pins D) X.xe s₃) X.xe s₂) X.xe s₁) ?_ PassesOwn.looking).run [] s σ H D (I.toTry _) h) ?_ fun e s1 he => he)
  · -- caught
    rintro u s' ⟨a, B, sI, pins', σ', H', cls, d, rfl, J0, nb, up, sky, na, os, ag, wish⟩
    have J := J0.ofTry ok
    have sky2 : Sky B (X.env :: X.outer) a (L2N.Zn cls d) X.env.locals s'.heap := by rw [← hs]; exact sky
    refine L2N.Sky.land L2N.Zn.steady frm hf sky2 fun h3 fl3 up3 => ?_
    -- by the clauses, whatever the tests have laid
    have walk : ∀ {hds' : List ExceptHandler} {l' : List Clause}, HdsA X n hds' l' → wAll i Wout D l' cls d σ' H' → ∀ (h5 : Heap) (t5 : Nat), HandSPX.FlyingZ B (X.env :: X.outer) a (L2N.Zn cls d) h5 → s'.heap.UpToSlots h5 →
        wpAny (model X.prog X.w) X.A (handleBy (.ref a) X.env hds') (SP X pins D) X.xe { s' with heap := h5, toks := t5 } := by
      intro hds' l' hk
      induction hk with
      | nil =>
        intro w h5 t5 fl up5
        refine wpAny_handleBy_nil ?_
        obtain ⟨_, _, _, oe, vs, T, oT, ts', he, hz, hd, h1, hr⟩ := id fl
        have out : wpAny (model X.prog X.w) X.A (setFlight (.ref a) X.env.frame) (fun _ s4 => wpAny (model X.prog X.w) X.A (throw (.ref a) : Sem Flow) (SP X pins D) X.xe s4) X.xe { s' with heap := h5, toks := t5 } := by
          rw [hf]
          refine HandSPX.setFlight_upZ fl fun h6 held up6 => wpAny_throw (tk _ _ ?_)
          exact ⟨a, B, sI, pins, σ', H', cls, d, rfl, J, nb, (up.trans up5).trans up6, .inr (.inr (by rw [hs]; exact held)), na, os, ag, w⟩
        unfold PySem.passOn
        refine wpAny_bind (wpAny_field he hd h1 ?_)
        rw [if_neg (show ¬ ((Value.ref T == Value.none) = true) from by simp)]
        first
          | exact wpAny_bind (wpAny_pure (wpAny_bind out))
          | exact wpAny_bind out
      | @cons test m ts b₀ suite pos' hds2 l2 ht hsu r ih =>
        rintro ⟨b, mb, yes, no⟩ h5 t5 fl up5
        obtain ⟨oe, vs, he, hz, hd⟩ := fl.there
        have sec : ∀ {h6 : Heap} {o : Obj} {vs : Array Value}, HandSPX.FlyingZ B (X.env :: X.outer) a (L2N.Zn cls d) h6 → h6.get? a = some o → o.data = .fields vs → a ≠ X.env.locals ∧ a ∉ X.fs := fun {h6 o vs} f6 e dd => by
          have away : a ∉ frs (X.env :: X.outer) := fun z => by
            obtain ⟨_, o', e', nf⟩ := f6.2.2.1.mem z
            rw [e] at e'
            cases e'
            exact nf _ dd
          refine ⟨fun z => away (List.mem_filterMap.mpr ⟨X.env, List.mem_cons_self, by rw [hf, z]⟩), fun z => ?_⟩
          obtain ⟨ev, hev, q⟩ := List.mem_filterMap.mp z
          exact away (List.mem_filterMap.mpr ⟨ev, List.mem_cons_of_mem _ hev, q⟩)
        have J5 : L2.Inv X pins σ' H' { s' with heap := h5, toks := t5 } := J.landed nb fl.1 (up.trans up5) os ag
        have S5 := J5.suite he hd na (sec fl he hd).1 (sec fl he hd).2
        refine wpAny_handleBy_cons (codeAny_handlers_test ?_) (by intro q; cases q)
        refine ht (a, oe) (X.pn ++ pins) [] σ' H' _ b _ _ S5 (by show m oe.cls = _; rw [hz.1]; exact mb) fun h6 t6 k6 => ?_
        have fl6 := flying_grow fl k6
        have up6 : s'.heap.UpToSlots h6 := up5.trans (Heap.UpToSlots.of_keeps k6)
        cases b with
        | false => exact ih (no rfl) h6 t6 fl6 up6
        | true =>
          refine codeAny_handlers_suite_as (HandSPX.lands_againZ fl6 fun h7 fl7 up7 => ?_)
          obtain ⟨oe7, vs7, he7, hz7, hd7⟩ := fl7.there
          have J7 : L2.Inv X pins σ' H' { s' with heap := h7, toks := t6 } := J.landed nb fl7.1 ((up.trans up6).trans up7) os ag
          have S7 := J7.suite he7 hd7 na (sec fl7 he7 hd7).1 (sec fl7 he7 hd7).2
          have has : HasP (X.suite a ((a, oe7) :: (X.pn ++ pins))) (a, oe7) := ⟨⟨rfl, vs7, hd7, hz7.2.2 vs7 hd7⟩, List.mem_cons_self⟩
          refine store_ok (X := X.suite a ((a, oe7) :: (X.pn ++ pins))) (v := .ref a) S7 hN hi (.inl hln) rfl (fun s8 S8 => ?_) (.inr hln)
          refine wpAny_mono ((hsu (a, oe7) (X.pn ++ pins) has ⟨_, hd7⟩).run [] s8 _ H' _ S8 (yes rfl (a, oe7) hz7.1 hz7.2.1 ⟨_, hd7⟩ na)) ?_ fun _ _ z => z.elim
          intro f s9 out
          have ends : ∀ {σ9 : L2.St} {H9 : Hp} {Q : Shared → Prop}, L2.Inv (X.suite a ((a, oe7) :: (X.pn ++ pins))) [] σ9 H9 s9 → (∀ s10, L2.Inv X pins (σ9.set i none) H9 s10 → Q s10) →
              wpAny (model X.prog X.w) X.A (do bindName X.env n .none; unbindBehindTheSuite X.env n pos') (fun _ s10 => Q s10) X.xe s9 := fun S9 hq => gone_ok (S9.unsuite ok) hN hi hln hq
          cases f with
          | ret u =>
            obtain ⟨v9, σ9, H9, S9, r9, q9⟩ := out
            exact ends S9 fun _ J9 => ⟨_, _, _, J9, r9, q9⟩
          | next =>
            obtain ⟨σ9, H9, S9, q9⟩ := out
            exact ends S9 fun _ J9 => ⟨_, _, J9, q9⟩
          | brk =>
            obtain ⟨σ9, H9, S9, q9⟩ := out
            exact ends S9 fun _ J9 => ⟨_, _, J9, q9⟩
          | cont =>
            obtain ⟨σ9, H9, S9, q9⟩ := out
            exact ends S9 fun _ J9 => ⟨_, _, J9, q9⟩
    exact walk hh wish h3 s'.toks fl3 up3
  · rintro (_ | _ | _ | u) s1 out
    · obtain ⟨σ1, H1, J1, q⟩ := out
      exact wpAny_execs_nil ⟨σ1, H1, J1.ofTry ok, q⟩
    · obtain ⟨σ1, H1, J1, q⟩ := out
      exact ⟨σ1, H1, J1.ofTry ok, q⟩
    · obtain ⟨σ1, H1, J1, q⟩ := out
      exact ⟨σ1, H1, J1.ofTry ok, q⟩
    · obtain ⟨v, σ1, H1, J1, r, q⟩ := out
      exact ⟨v, σ1, H1, J1.ofTry ok, r, q⟩
end
end Lay

set_option Elab.async false
set_option linter.all false
set_option maxRecDepth 100000
set_option maxHeartbeats 4000000
/-! LayG: lambdas without parameters handed to defs, by any kind of exceptions -/
namespace Lay
open PySem PySem.Spec PyProof.Rows L2 LamX
/-- from the state at (H, s) on: f may be called; spL is what it promises. fs: the frames of those who stand above it -/
def LamOk (P : Program) (w : World) (K : PySem.W.Frag) (mg : Str → Option Value) (base : Heap) (CX : CXT) (j : Nat) (fs : List Addr) (s : Shared) (H : Hp) (f : Addr) (spL : Hp → VK → XK → Prop) : Prop :=
  ∀ (A : Around) (outer : List Env) (s' : Shared) (H' : Hp) (Q : VK) (E : XK), Room j A → Env0 P w K mg base A outer s' H' → Un fs [] H H' s.heap s'.heap → spL H' Q E →
    PySem.W.FnAt f s'.heap ∧ codeAny (model P w) A (.call (.ref f) ⟨[], []⟩) (CR CX outer P w H' s' Q E) s'
theorem un_under {fs fs1 : List Addr} {H0 H1 H2 : Hp} {h0 h1 h2 : Heap} (a : Un fs [] H0 H1 h0 h1) (b : Un fs1 [] H1 H2 h1 h2) (hf : ∀ c ∈ fs1, c ∈ fs ∨ h0.get? c = none) : Un fs [] H0 H2 h0 h2 where
  keep := fun c o e n nf _ => b.keep c o (a.keep c o e n nf (by simp)) (a.free c o e n (by simp)) (fun z => (hf c z).elim nf fun q => by rw [e] at q; cases q) (by simp)
  slot := fun c o e n yf _ => by
    obtain ⟨sl, e1⟩ := a.slot c o e n yf (by simp)
    obtain ⟨sl2, e2⟩ := b.any e1 (a.free c o e n (by simp)) (by simp)
    exact ⟨sl2, e2⟩
  free := fun c o e n _ => by
    obtain ⟨sl, e1⟩ := a.any e n (by simp)
    exact b.free c _ e1 (a.free c o e n (by simp)) (by simp)
  there := fun c o e _ => by
    obtain ⟨o1, e1⟩ := a.there c o e (by simp)
    exact b.there c o1 e1 (by simp)
  tups := fun c xs e => b.tups c xs (a.tups c xs e)
  frzs := fun c o u e => b.frzs c o u (a.frzs c o u e)
  tbls := fun c ps e => by
    obtain ⟨m1, e1⟩ := a.tbls c ps e
    obtain ⟨m2, e2⟩ := b.tbls c _ e1
    exact ⟨m1 ++ m2, by rw [e2, Array.append_assoc]⟩
/-- known at a def's entry, so at any place of its body -/
theorem lam_inner {X : Cx} {pins : List (Addr × Obj)} {σ : L2.St} {H : Hp} {s : Shared} {CX : CXT} {j : Nat} {f : Addr} {spL : Hp → VK → XK → Prop} (hx : X.ex = []) (I : L2.Inv X pins σ H s) (l : LamOk X.prog X.w X.K X.mg X.base CX j X.fs X.s_0 X.H_0 f spL) :
    LamOk X.prog X.w X.K X.mg X.base CX j (frs X.stack) s H f spL := by
  intro A outer s' H' Q E room e0 un prom
  have below := I.base
  rw [hx] at below
  refine l A outer s' H' Q E room e0 (un_under below un fun c z => ?_) prom
  rcases List.mem_cons.mp (I.stkSub c z) with q | q
  · refine .inr ?_
    cases g : X.s_0.heap.get? c with
    | none => rfl
    | some o =>
      have := Heap.lt_size g
      rw [q] at this
      exact absurd (Nat.lt_of_lt_of_le this I.ok.above) (Nat.lt_irrefl _)
  · exact .inl q
/-- the context of the lambda's body, its exceptions by CX -/
def lamCxN (CX : CXT) (X : Cx) (A : Around) (outer : List Env) (s : Shared) (H : Hp) (E : XK) (scope : Scope) (f c' : Addr) : Cx :=
  (lamCx X A outer s H E scope f c').tr [] fun e s' => wpAny (model X.prog X.w) (A.deeper (lamEnv X scope s.heap.objs.size f c')) (leaving (lamEnv X scope s.heap.objs.size f c') e) (fun _ s'' => CX outer H s E e s'') (fun e' s'' => CX outer H s E e' s'') s'
section
variable {X : Cx} {CX : CXT}
theorem lam_ok {pins : List (Addr × Obj)} {σ : L2.St} {H : Hp} {s : Shared} {f c' : Addr} {pm ctv : Value} {params : Arguments} {body : Expr} {scope : Scope} {k : Nat} {t : XK → TE} (I : L2.Inv X pins σ H s) (L : LamS X.env.scope scope)
    (hf : s.heap.get? f = some (PySem.W.kla_obj "<lambda>" (X.env.qual ++ "<lambda>") params body scope (cloFrom X.env.cells scope.names []) pm c' ctv)) (hfn : H f = none) (hfr : f ∉ frs X.stack)
    (hbind : bindArgs (PySem.W.kla_fn "<lambda>" (X.env.qual ++ "<lambda>") params body scope (cloFrom X.env.cells scope.names []) pm (.ref c') ctv) ⟨[], []⟩ = pure [])
    (hbody : ∀ (A : Around) (outer : List Env) (s : Shared) (H : Hp) (E : XK), Room k (A.deeper (lamEnv X scope s.heap.objs.size f c')) → PE (lamCxN CX X A outer s H E scope f c') body (t E)) :
    LamOk X.prog X.w X.K X.mg X.base CX (k + 1) (frs X.stack) s H f (fun H' Q E => H' c' = some (CodeO c' (X.env.qual ++ "<lambda>")) ∧ t E σ H' Q) := by
  rintro A outer s1 H1 Q E room e0 un ⟨hc, prom⟩
  have there : s1.heap.get? f = some (PySem.W.kla_obj "<lambda>" (X.env.qual ++ "<lambda>") params body scope (cloFrom X.env.cells scope.names []) pm c' ctv) := un.keep f _ hf hfn hfr (by simp)
  refine ⟨⟨_, _, _, _, there⟩, ?_⟩
  obtain ⟨⟨oc, vs, t0, hoc, hdc, hvc⟩, _, _⟩ := e0.hok c' _ hc
  have lim : s1.heap.NoLimit := e0.mod.nolimit.keeps fun b o e => (e0.bs b o e).1
  refine PySem.W.kla_callFunE room.depth there rfl L.co L.gen rfl ⟨c', oc, vs, t0, rfl, hoc, hdc, hvc⟩ ?_
  rw [hbind]
  refine wpAny_pure (wpAny_newFunctionEnv (fun y hy => (L.own y hy).2) (fun y hy => absurd hy (by simp)) (fun h₁ hns hsb => ⟨lim.fresh _ hsb, ?_⟩) L.kind)
  show codeAny _ _ (.expr body (lamEnv X scope s1.heap.objs.size f c')) _ _
  have kp : ∀ b o, s1.heap.get? b = some o → h₁.get? b = some o := fun b o e => hsb.extBut b o (Nat.ne_of_lt (Heap.lt_size e)) (Heap.get?_push_of_some _ e)
  have J0 := lam_start2 (E := E) (f := f) (c' := c') (tk := s1.toks + ([] : List (Str × Value)).length) I L e0 room.hd un hns kp
  have J : L2.Inv (lamCxN CX X A outer s1 H1 E scope f c') [] σ H1 { s1 with heap := h₁, toks := s1.toks + ([] : List (Str × Value)).length } :=
    ⟨J0.ok.toTry _ _, J0.os, J0.bare, J0.base, J0.loc, J0.cell, J0.free, J0.freeC, fun p hp => absurd (show p ∈ ([] : List (Addr × Obj)) ++ [] from hp) (by simp), J0.hok, J0.len⟩
  refine PySem.W.kla_codeExpr (wpAny_mono ((hbody A outer s1 H1 E (room.deeper _)).run [] _ _ H1 Q J prom) ?_ fun e s' hq => hq)
  rintro v s' ⟨x, H', J', rv, q⟩
  exact ⟨x, H', J'.os, J'.bare, J'.base, J'.hok, rv, q⟩
/-- a(), a the local that bears the lambda -/
theorem pe_actN {j i : Nat} {a : Str} {f : Addr} {spL : Hp → VK → XK → Prop} {E : L2.St → XK} {p1 p2 : Pos} (hex : X.ex = []) (l : LamOk X.prog X.w X.K X.mg X.base CX j X.fs X.s_0 X.H_0 f spL) (room : Room j X.A) (hx : ∀ σ, PassesAt CX X σ (E σ))
    (hN : X.N[i]? = some a) (hv : Vis X.env.scope a) (hd : (a == ("__debug__" : Str)) = false := by decide) (hcd : (a == ("__classdict__" : Str)) = false := by decide) :
    PE X (.Call (.Name a p1) [] [] p2) (fun σ H Q => σ[i]? = some (some (.ref f)) ∧ spL H Q (E σ)) := by
  constructor
  rintro pins s σ H Q I ⟨hs, prom⟩
  refine wpAny_Call_Name_kw (thn ((pe_var (pos := p1) (i := i) hN hv hd hcd).run pins s σ H (fun v H1 => v = .ref f ∧ H1 = H) I ⟨.ref f, hs, rfl, rfl⟩) ?_)
  rintro u s1 ⟨v, H1, I1, r1, rfl, rfl⟩
  obtain rfl : u = Value.ref f := r1
  obtain ⟨at_f, runs⟩ := lam_inner hex I1 l X.A X.stack s1 H1 Q (E σ) room I1.env0 Un.refl prom
  refine PySem.W.callWith_F0 at_f (wpAny_call (codeAny_mono runs ?_))
  rintro (er | _ | _ | _ | w) s' out
  all_goals first
    | exact hx σ pins H1 s1 _ s' I1 out
    | exact I1.after out
    | exact False.elim out
/-- a def whose first argument is such a lambda -/
structure FnL (P : Program) (w : World) (K : PySem.W.Frag) (mg : Str → Option Value) (base : Heap) (CX CXL : CXT) (k j : Nat) (f : Addr) (fd : FuncData) (ps : List Str) (SP : (Hp → VK → XK → Prop) → Sp) : Prop where
  many : ∀ spL vs H Q E, SP spL vs H Q E → vs.length + 1 = ps.length
  runs : ∀ (A : Around) (outer : List Env) (s : Shared) (H : Hp) (args : Args) (us : List Value) (vs : List V) (fl : Addr) (spL : Hp → VK → XK → Prop) (Q : VK) (E : XK), Room k A → Env0 P w K mg base A outer s H → BindsTo s fd args (ps.zip (.ref fl :: us)) → Vals vs us →
    LamOk P w K mg base CXL j (frs outer) s H fl spL → SP spL vs H Q E → codeAny (model P w) A (.call (.ref f) args) (CR CX outer P w H s Q E) s
theorem fn_ofL {CXL : CXT} {P : Program} {w : World} {K : PySem.W.Frag} {mg : Str → Option Value} {base : Heap} {k j : Nat} {f : Addr} {name qual : Str} {params : Arguments} {body : List Stmt} {scope : Scope} {dV kV doc pm cdv ct oc : Value} {an od : Option Addr}
    {osl : Array (Option Value)} {N ps : List Str} {SP : (Hp → VK → XK → Prop) → Sp} (lk : K.lookup f = some ⟨oc, od, .func (PySem.W.fnOf name qual params body scope dV kV doc pm an cdv ct), osl⟩) (cd : PySem.W.codeIn K cdv qual = true) (S : FnScope N ps scope)
    (many : ∀ spL vs H Q E, SP spL vs H Q E → vs.length + 1 = ps.length)
    (inside : ∀ (A : Around) (outer : List Env) (s : Shared) (H : Hp) (vs : List V) (fl : Addr) (spL : Hp → VK → XK → Prop) (Q : VK) (E : XK), Room k (A.deeper (envOfC qual scope s.heap.objs.size f cdv)) → LamOk P w K mg base CXL j (frs outer) s H fl spL → SP spL vs H Q E →
      ∃ t, PSs (cxOf CX P w K mg base N qual scope f cdv A outer s H E) body t ∧ t { nx := fun _ H' => Q .non H', rt := Q } (L2.start N (.ref fl :: vs)) H) :
    FnL P w K mg base CX CXL (k + 1) j f (PySem.W.fnOf name qual params body scope dV kV doc pm an cdv ct) ps SP := by
  refine ⟨many, fun A outer s H args us vs fl spL Q E room e0 hb r l prom => ?_⟩
  exact run_ofS (us := .ref fl :: us) (vs := .ref fl :: vs) lk cd S room e0 hb (.cons rfl r) (by rw [List.length_cons]; exact many _ _ _ _ _ prom) fun room' => inside A outer s H vs fl spL Q E room' l prom
theorem run_fnL {CXL : CXT} {k j : Nat} {f fl : Addr} {fd : FuncData} {ps : List Str} {SP : (Hp → VK → XK → Prop) → Sp} {pins : List (Addr × Obj)} {σ : L2.St} {H : Hp} {s : Shared} {Q : VK} {E : XK} {us : List Value} {vs : List V} {spL : Hp → VK → XK → Prop}
    (F : FnL X.prog X.w X.K X.mg X.base CX CXL k j f fd ps SP) (room : Room k X.A) (hb : Binds X.K fd ps []) (hx : PassesAt CX X σ E) (I : L2.Inv X pins σ H s) (r : Vals vs us) (l : LamOk X.prog X.w X.K X.mg X.base CXL j (frs X.stack) s H fl spL) (h : SP spL vs H Q E) :
    wpAny (model X.prog X.w) X.A (call (.ref f) (.ref fl :: us)) (EP X pins σ Q) X.xe s := by
  have bound := hb s (.ref fl :: us) I.kIn (by rw [List.append_nil, List.length_cons, ← r.length]; exact F.many _ _ _ _ _ h)
  rw [List.append_nil] at bound
  refine wpAny_call (codeAny_mono (F.runs X.A X.stack s H ⟨.ref fl :: us, []⟩ us vs fl spL Q E room I.env0 bound r l h) ?_)
  rintro (er | _ | _ | _ | w) s' out
  all_goals first
    | exact hx pins H s _ s' I out
    | exact I.after out
    | exact False.elim out
/-- x(a, ..), a the local that bears the lambda -/
theorem pe_passL {CXL : CXT} {k j i : Nat} {f fl : Addr} {fd : FuncData} {ps : List Str} {SP : (Hp → VK → XK → Prop) → Sp} {spL : Hp → VK → XK → Prop} {E : L2.St → XK} {x a : Str} {es : List Expr} {t : TA} {q p1 pos : Pos}
    (F : FnL X.prog X.w X.K X.mg X.base CX CXL k j f fd ps SP) (hex : X.ex = []) (l : LamOk X.prog X.w X.K X.mg X.base CXL j X.fs X.s_0 X.H_0 fl spL) (room : Room k X.A) (hg : Gl X x) (hm : X.mg x = some (.ref f)) (hk : PySem.W.keepIn X.K (.ref f) = true) (hb : Binds X.K fd ps []) (hx : ∀ σ, PassesAt CX X σ (E σ))
    (hN : X.N[i]? = some a) (hv : Vis X.env.scope a) (ha : PA X es t) (hd : (a == ("__debug__" : Str)) = false := by decide) (hcd : (a == ("__classdict__" : Str)) = false := by decide) (hdb : (x == ("__debug__" : Str)) = false := by decide)
    (he : starEach (.Name a p1 :: es) X.env = (false, eval (.Name a p1) X.env) :: starEach es X.env := by rfl) (hpl : (backTo pos (starEach es X.env)).any (·.1) = false := by rfl) :
    PE X (.Call (.Name x q) (.Name a p1 :: es) [] pos) (fun σ H Q => σ[i]? = some (some (.ref fl)) ∧ t σ H fun vs H1 => SP spL vs H1 Q (E σ)) := by
  constructor
  rintro pins s σ H Q I ⟨hs, h⟩
  refine wpAny_Call_Name_kw (ld_glob I hg hm ?_ hdb)
  refine PySem.W.callWith_K (h₀ := X.base) I.ok.mod.kin hk ?_ he hpl
  refine Calls.spliced_cons (thn ((pe_var (pos := p1) (i := i) hN hv hd hcd).run pins s σ H (fun v H1 => v = .ref fl ∧ H1 = H) I ⟨.ref fl, hs, rfl, rfl⟩) ?_)
  rintro u s1 ⟨v, H1, I1, r1, rfl, rfl⟩
  obtain rfl : u = Value.ref fl := r1
  refine thn (ha.run pos pins s1 σ H1 _ I1 h) ?_
  rintro us s2 ⟨vs, H2, I2, r, prom⟩
  exact ⟨I2.kIn, run_fnL F room hb (hx σ) I2 r (lam_inner hex I2 l) prom⟩
/-- the reading of x(lambda: body, ..) -/
def tLamN (T : List (Addr × Str)) (q : Str) (SP : (Hp → VK → XK → Prop) → Sp) (E : L2.St → XK) (tb : XK → TE) (t : TA) : TE := fun σ H Q => Tabs T H ∧ ∀ H1 c', ExtN H H1 → Tabs T H1 → H1 c' = some (CodeO c' q) →
  t σ H1 fun vs H2 => SP (fun H' Q' E' => H' c' = some (CodeO c' q) ∧ tb E' σ H' Q') vs H2 Q (E σ)
theorem pe_lamN {CXL : CXT} {T : List (Addr × Str)} {SP : (Hp → VK → XK → Prop) → Sp} {E : L2.St → XK} {x : Str} {g c P : Addr} {k j : Nat} {fd : FuncData} {ps : List Str} {params : Arguments} {body : Expr} {scope : Scope} {tb : XK → TE} {es : List Expr} {t : TA} {p lpos pos : Pos}
    (F : FnL X.prog X.w X.K X.mg X.base CX CXL k (j + 1) g fd ps SP) (room : Room k X.A) (hg : Gl X x) (hm : X.mg x = some (.ref g)) (hk : PySem.W.keepIn X.K (.ref g) = true) (hb : Binds X.K fd ps []) (hx : ∀ σ, PassesAt CX X σ (E σ))
    (TB : TabB X.base X.mg c P) (hcode : X.env.code = .ref c) (hmT : (P, X.env.qual ++ "<lambda>") ∈ T) (hu : ∀ p ∈ T, p.1 = P → p.2 = X.env.qual ++ "<lambda>") (L : LamS X.env.scope scope) (hdef : defaultsOf params X.env = ([], []))
    (hbind : ∀ (q : Str) (cl : List (Str × Addr)) (pm cv ctv : Value), bindArgs (PySem.W.kla_fn "<lambda>" q params body scope cl pm cv ctv) ⟨[], []⟩ = pure [])
    (hbody : ∀ (A : Around) (outer : List Env) (s : Shared) (H : Hp) (E : XK) (f c' : Addr), Room j (A.deeper (lamEnv X scope s.heap.objs.size f c')) → PE (lamCxN CXL X A outer s H E scope f c') body (tb E)) (ha : PA X es t)
    (hdb : (x == ("__debug__" : Str)) = false := by decide) (he : starEach (.Lambda params body scope lpos :: es) X.env = (false, eval (.Lambda params body scope lpos) X.env) :: starEach es X.env := by rfl) (hpl : (backTo pos (starEach es X.env)).any (·.1) = false := by rfl) :
    PE X (.Call (.Name x p) (.Lambda params body scope lpos :: es) [] pos) (tLamN T (X.env.qual ++ "<lambda>") SP E tb t) := by
  constructor
  rintro pins s σ H Q I ⟨hT, h⟩
  refine wpAny_Call_Name_kw (ld_glob I hg hm ?_ hdb)
  refine PySem.W.callWith_K (h₀ := X.base) I.ok.mod.kin hk ?_ he hpl
  refine Calls.spliced_cons (lam_make2 I TB hcode hmT hu hT hdef (L.has I.ok) fun f c' pm' ctv H1 s' I1 eN T1 hf hfn hfr hco => ?_)
  have I2 : L2.Inv X (pins ++ [(f, PySem.W.kla_obj "<lambda>" (X.env.qual ++ "<lambda>") params body scope (cloFrom X.env.cells scope.names []) pm' c' ctv)]) σ H1 s' := I1.pins_of fun p hp => by
    rcases List.mem_append.mp hp with z | z
    · exact I1.pin p (List.mem_append_right _ z)
    · obtain rfl := List.mem_singleton.mp z
      refine ⟨hf, hfn, fun y => ?_, fun y => hfr ?_, fun v y => by cases y⟩
      · obtain ⟨m, ⟨o', es', ep, ho', hd', _⟩, _⟩ := I1.loc
        have y : f = X.env.locals := y
        rw [← y, hf] at ho'
        cases ho'
        cases hd'
      · rcases I1.ok.stk with q | ⟨q, _⟩
        · rw [q]; exact y
        · rw [q]
          have : ∀ (e : Env) (l : List Env), f ∈ frs l → f ∈ frs (e :: l) := fun e l m => by
            obtain ⟨e', he', q'⟩ := List.mem_filterMap.mp m
            exact List.mem_filterMap.mpr ⟨e', List.mem_cons_of_mem _ he', q'⟩
          exact this _ _ y
  refine thn (ha.run pos _ s' σ H1 _ I2 (h H1 c' eN T1 hco)) ?_
  rintro us s2 ⟨vs, H2, I3, r, prom⟩
  refine ⟨I3.kIn, ?_⟩
  obtain ⟨f1, f2, _⟩ := I3.pin _ (List.mem_append_right _ (List.mem_append_right _ (List.mem_singleton.mpr rfl)))
  have l := lam_ok (CX := CXL) I3 L f1 f2 hfr (hbind _ _ _ _ _) fun A outer s H E room' => hbody A outer s H E f c' room'
  refine thn (run_fnL F room hb (hx σ) I3 r l prom) ?_
  rintro v s3 ⟨y, H3, I4, rv, q⟩
  exact ⟨y, H3, I4.unpinned, rv, q⟩
end
end Lay

set_option Elab.async false
set_option linter.all false
set_option maxRecDepth 100000
set_option maxHeartbeats 4000000
/-! LayH: an own exception with an own __init__ is made where nothing is handled; its context is known to be None -/
namespace Lay
open PySem PySem.Spec PyProof.Rows L2
section
variable {X : Cx}
theorem pmk_oexN {CX : CXT} {x : Str} {C fI : Addr} {k : Nat} {fd : FuncData} {ps : List Str} {sp : Sp} {e : Expr} {es : List Expr} {ta : TA} {p pos : Pos} (T : OexC X.K C) (iC : PySem.W.findIn X.K (.ref C) "__init__" = some (some (.ref fI)))
    (tI : PySem.W.typeIn X.K (.ref fI) = some (.type "function")) (F1 : FnOk X.prog X.w X.K X.mg X.base CX k fI fd ps sp) (room : Room (k + 1) X.A) (hb : Binds X.K fd ps []) (hx : Passes CX X (fun _ _ _ => False)) (hg : Gl X x) (hm : X.mg x = some (.ref C)) (ha : PA X (e :: es) ta)
    (hdb : (x == ("__debug__" : Str)) = false := by decide) (he : starEach (e :: es) X.env = (false, eval e X.env) :: starEach es X.env := by rfl) (hpl : (backTo pos (starEach es X.env)).any (·.1) = false := by rfl) :
    L2N.PMk X (.Call (.Name x p) (e :: es) [] pos) (tMkO C sp [] ta) := by
  intro pins s σ H Q I h
  obtain ⟨nm, q, N, bs, bm, sn, sub, ab, col, dd, k0, k1, k2, k3, k5, hC, hbm⟩ := T.cls
  refine wpAny_Call_Name_kw (ld_glob I hg hm ?_ hdb)
  refine PySem.W.callWith_K (h₀ := X.base) I.ok.mod.kin T.kC (thn (ha.run pos pins s σ H _ I h) ?_) he hpl
  rintro us ⟨hp, g, dr, tk, os⟩ ⟨vs, H1, I1, r1, few, wish⟩
  refine ⟨I1.kIn, ?_⟩
  show wpAny _ _ (call (.ref C) us) _ _ _
  -- the new object stands behind the tuple of its arguments
  generalize ea : hp.objs.size + 1 = a at *
  have up : hp.objs.size ≤ a := by rw [← ea]; exact Nat.le_succ _
  have prom := wish a (I1.hok.fresh up)
  rw [List.append_nil] at prom
  have grow : ∀ b o, hp.get? b = some o → ((hp.push (PySem.W.kdv_tup us)).push (PySem.HandSPX.excO C hp.objs.size)).get? b = some o := fun b o z => Heap.get?_push_of_some _ (Heap.get?_push_of_some _ z)
  have here : ((hp.push (PySem.W.kdv_tup us)).push (PySem.HandSPX.excO C hp.objs.size)).get? a = some (PySem.HandSPX.excO C hp.objs.size) := by rw [← ea]; heap_get
  have I2 := I1.laid (t' := tk) (a := a) (o := exo a C none) (h' := (hp.push (PySem.W.kdv_tup us)).push (PySem.HandSPX.excO C hp.objs.size)) grow up (exo_ok here)
  have r2 : Vals (V.ref a :: vs) (Value.ref a :: us) := .cons rfl r1
  have number : (Value.ref a :: us ++ []).length = ps.length := by rw [List.append_nil, ← r2.length]; exact F1.len _ _ _ _ prom
  have bound := hb ⟨(hp.push (PySem.W.kdv_tup us)).push (PySem.HandSPX.excO C hp.objs.size), g, dr, tk, os⟩ (Value.ref a :: us) I2.kIn number
  rw [List.append_nil] at bound
  have short : us.length ≤ sizeLine := by rw [← Paired.length r1, sizeLine_eq]; omega
  subst ea
  refine wpAny_call (PySem.HandSPX.call_own F.excBase_ValueError (fun Y => PySem.HandSPX.refsVE_contains Y bm hbm) (I1.kIn _ _ hC) (PySem.W.looks_findIn I1.kIn iC) (fun self => PySem.W.bind_fn I1.kIn self tI) short
    (codeAny_mono (F1.run _ X.stack _ _ ⟨Value.ref (hp.objs.size + 1) :: us, []⟩ (Value.ref (hp.objs.size + 1) :: us) _ _ (fun _ _ _ => False) (room.make C us []) (I2.env0.make C us []) bound r2 prom) ?_))
  rintro (er | _ | _ | _ | u) s' out
  case error => exact hx pins σ _ _ er s' I2 out
  case ok.ret =>
    obtain ⟨v, H2, os2, bare2, un2, hok2, rv, rfl, d, fs, ea, ed, hd1, q2⟩ := out
    obtain ⟨h2, g2, d2, t2, os'⟩ := s'
    obtain ⟨t0, G, J, sub2, gone, obj, free⟩ := mk_end0 (d2 := d2) (t2 := t2) I1 up grow un2 hok2 os2 bare2 ea ed hd1
    refine ⟨rv, hp.objs.size + 1, _, _, ⟨G, g2, d2, t2, os'⟩, _, .ref C, some d, rfl, J, sub2, gone, obj, ⟨rfl, rfl, fun vs hv => ?_⟩, rfl, rfl, free, rfl, bare2, raises_own T.exC T.tyC, q2⟩
    cases hv
    rfl
  all_goals exact False.elim out
end
end Lay

set_option Elab.async false
set_option linter.all false
set_option maxRecDepth 100000
set_option maxHeartbeats 4000000
/-! LayI: words for the walks -/
namespace Lay
open PySem PySem.Spec PyProof.Rows L2
open C8 (Cal)
theorem pown {M : Model} {A : Around} {env : Env} : PassesOwn M A env (fun _ _ => False) := PassesOwn.never
/-- a def that raises nothing, by its body -/
theorem calD {P : Program} {w : World} {K : PySem.W.Frag} {mg : Str → Option Value} {base : Heap} {x : Str} {params : Arguments} {body : List Stmt} {scope : Scope} {f : Addr} {fd : FuncData} {N ps : List Str} {k : Nat} {sp : Sp}
    (F : FunD K x x params body scope [] [] f fd) (g : mg x = some (.ref f)) (S : FnScope N ps scope)
    (b : ∀ (kV doc pm : Value) (an : Option Addr) (cdv ct : Value) (us : List Value), us.length = ps.length → bindArgs (PySem.W.fnOf x x params body scope .none kV doc pm an cdv ct) ⟨us, []⟩ = pure (ps.zip us)) (len : ∀ vs H Q E, sp vs H Q E → vs.length = ps.length)
    (inside : ∀ (cdv : Value) (A : Around) (outer : List Env) (s : Shared) (H : Hp) (vs : List V) (Q : VK) (E : XK), Room k (A.deeper (envOfC x scope s.heap.objs.size f cdv)) → sp vs H Q E →
      ∃ t, PSs (cxOf C8.CX0 P w K mg base N x scope f cdv A outer s H E).nox body t ∧ t { nx := fun _ H' => Q .non H', rt := Q } (L2.start N vs) H) : Cal P w K mg base (k + 1) x sp [] := by
  refine ⟨f, fd, ps, [], F.ok S len fun cdv A outer s H vs Q E room prom => ?_, g, F.kp, F.bindsN b, .nil⟩
  obtain ⟨t, walk, q⟩ := inside cdv A outer s H vs Q E room prom
  exact ⟨t, walk.nox, q⟩
/-! isinstance with a built-in class -/
def kinds : List String := ["int", "bool", "str", "NoneType", "list", "tuple", "dict"]
def isaB (t T : String) : Bool := t == T || (t == "bool" && T == "int")
theorem kit_kinds : ∀ t ∈ kinds, ∀ T ∈ kinds, kitB t T = some (isaB t T) := by decide +kernel
/-- x is of the kind t -/
def Kd (K : PySem.W.Frag) (H : Hp) (x : V) (t : String) : Prop := t ∈ kinds ∧ TyX K H x (.type t)
def rIsB (K : PySem.W.Frag) : List V → Hp → VK → Prop := fun xs H Q => ∃ x T, xs = [x, .ty T] ∧ T ∈ kinds ∧ ∃ t, Kd K H x t ∧ Q (.bl (isaB t T)) H
theorem call_isB {X : Cx} : CallR X (.builtin "isinstance") (rIsB X.K) := by
  rintro pins s σ H xs us Q I r ⟨x, T, rfl, hT, t, ⟨ht, ty⟩, q⟩
  exact call_isi pins s σ H _ us Q I r ⟨x, .ty T, .type t, .type T, isaB t T, rfl, .ty T, ty, kit_ty (kit_kinds t ht T hT), q⟩
theorem rIsB_iff {K : PySem.W.Frag} {x : V} {T : String} {H : Hp} {Q : VK} (hT : T ∈ kinds) : rIsB K [x, .ty T] H Q ↔ ∃ t, Kd K H x t ∧ Q (.bl (isaB t T)) H := by
  constructor
  · rintro ⟨_, _, e, _, h⟩
    cases e
    exact h
  · rintro h
    exact ⟨_, _, rfl, hT, h⟩
theorem rIsB_i {K : PySem.W.Frag} {x : V} {T : String} {H : Hp} {Q : VK} {t : String} (k : Kd K H x t) (h : Q (.bl (isaB t T)) H) (hT : T ∈ kinds := by decide) : rIsB K [x, .ty T] H Q := ⟨_, _, rfl, hT, t, k, h⟩
end Lay

set_option Elab.async false
set_option linter.all false
set_option maxRecDepth 100000
set_option maxHeartbeats 4000000
/-! LayJ: small facts of texts and lists, for the readings -/
namespace Lay
open PySem PySem.Spec PyProof.Rows L2
open SX (S S_len S_cat S_tl S_inj)
theorem at_zero {α : Type} {c : α} {r : List α} : atI (c :: r) 0 = some c := by simp [atI, ixN]
theorem at_nat {α : Type} {xs : List α} {i : Nat} {x : α} (h : xs[i]? = some x) : atI xs (i : Int) = some x := by
  have lt : i < xs.length := (List.getElem?_eq_some_iff.mp h).1
  have e : ixN xs.length (i : Int) = some i := by
    unfold ixN
    rw [if_pos (by omega), if_pos (by omega)]
    simp
  unfold atI
  rw [e]
  exact h
theorem ixn {n i : Nat} (h : i < n) : ixN n (i : Int) = some i := by
  unfold ixN
  rw [if_pos (by omega), if_pos (by omega)]
  simp
theorem str_is {a b : List Nat} {z : Str} (h : z = S b) : (V.str (S a) = V.str z) = (a = b) := by
  subst h
  apply propext
  constructor
  · intro e
    exact S_inj (V.str.inj e)
  · intro e
    rw [e]
theorem len_S {K : PySem.W.Frag} {a : List Nat} {H : Hp} (h : a.length ≤ sizeLine) : LenV K (V.str (S a)) H a.length := ⟨by rw [S_len]; exact h, by rw [S_len]⟩
theorem small {n : Nat} (h : n ≤ 16777216) : n ≤ sizeLine := by rw [sizeLine_eq]; exact h
theorem same_new {H : Hp} {p : Addr} {o : HO} (h : H p = none) : Same H (upd H p o) := fun b x e => by
  rw [upd_ne (ne_of_none e h)]
  exact e
theorem Kd.same {K : PySem.W.Frag} {H H' : Hp} {x : V} {t : String} (k : Kd K H x t) (e : Same H H') : Kd K H' x t := by
  refine ⟨k.1, ?_⟩
  cases k.2 with
  | base h =>
    cases h with
    | non => exact .base .non
    | bl y => exact .base (.bl y)
    | int i => exact .base (.int i)
    | str y => exact .base (.str y)
    | flt y => exact .base (.flt y)
    | lst h => exact .base (.lst (e _ _ h))
    | frz h => exact .base (.frz (e _ _ h))
    | tup h => exact .base (.tup (e _ _ h))
    | dK h => exact .base (.dK (e _ _ h))
    | dT h => exact .base (.dT (e _ _ h))
  | byt y => exact .byt y
  | set h => exact .set (e _ _ h)
  | kList h c => exact .kList h c
  | kTuple h c => exact .kTuple h c
  | kDict h c => exact .kDict h c
  | fTuple h => exact .fTuple (e _ _ h)
  | fDict h => exact .fDict (e _ _ h)
theorem kd_int {K : PySem.W.Frag} {H : Hp} {i : Int} : Kd K H (.int i) "int" := ⟨by decide, .base (.int i)⟩
theorem kd_bl {K : PySem.W.Frag} {H : Hp} {b : Bool} : Kd K H (.bl b) "bool" := ⟨by decide, .base (.bl b)⟩
theorem kd_str {K : PySem.W.Frag} {H : Hp} {b : Str} : Kd K H (.str b) "str" := ⟨by decide, .base (.str b)⟩
theorem kd_non {K : PySem.W.Frag} {H : Hp} : Kd K H .non "NoneType" := ⟨by decide, .base .non⟩
theorem kd_lst {K : PySem.W.Frag} {H : Hp} {a : Addr} {xs : List V} (h : H a = some (.lst xs)) : Kd K H (.ref a) "list" := ⟨by decide, .base (.lst h)⟩
theorem kd_tup {K : PySem.W.Frag} {H : Hp} {a : Addr} {xs : List V} (h : H a = some (.tup xs)) : Kd K H (.ref a) "tuple" := ⟨by decide, .base (.tup h)⟩
theorem kd_dK {K : PySem.W.Frag} {H : Hp} {a : Addr} {xs : List (Key × V)} (h : H a = some (.dK xs)) : Kd K H (.ref a) "dict" := ⟨by decide, .base (.dK h)⟩
theorem sqT_of {K : PySem.W.Frag} {H : Hp} {t : Addr} {xs : List V} (h : H t = some (.tup xs)) : SqT K H t xs := .inl (.inl h)
theorem ixT {K : PySem.W.Frag} {H : Hp} {t : Addr} {xs : List V} {v : V} {R : VK} (h : H t = some (.tup xs)) (i : Nat) (e : xs[i]? = some v) (k : R v H) : rIxT K (V.ref t) (V.int (i : Int)) H R := ⟨t, xs, (i : Int), v, rfl, rfl, sqT_of h, at_nat e, k⟩
theorem ixL {K : PySem.W.Frag} {H : Hp} {t : Addr} {xs : List V} {v : V} {R : VK} (h : SqL K H t xs) (i : Nat) (e : xs[i]? = some v) (k : R v H) : rIxL K (V.ref t) (V.int (i : Int)) H R := ⟨t, xs, (i : Int), v, rfl, rfl, h, at_nat e, k⟩
theorem setL {H : Hp} {t : Addr} {xs : List V} {v : V} {R : Hp → Prop} (h : H t = some (.lst xs)) (i : Nat) (e : i < xs.length) (k : R (upd H t (.lst (xs.set i v)))) : rSetL (V.ref t) (V.int (i : Int)) v H R := ⟨t, xs, (i : Int), i, rfl, rfl, h, ixn e, k⟩
theorem len_T {K : PySem.W.Frag} {H : Hp} {t : Addr} {xs : List V} (h : H t = some (.tup xs)) : LenV K (V.ref t) H xs.length := .inr ⟨xs, sqT_of h, rfl⟩
theorem len_L {K : PySem.W.Frag} {H : Hp} {t : Addr} {xs : List V} (h : SqL K H t xs) : LenV K (V.ref t) H xs.length := .inl ⟨xs, h, rfl⟩
/-- an expression's reading, its value told first -/
theorem at_te {t : TE} {σ : L2.St} {H : Hp} {R : VK} (x : V) (h : ∀ R' : VK, (∀ H', Same H H' → R' x H') → t σ H R') (k : ∀ H', Same H H' → R x H') : t σ H R := h R k
theorem at_te0 {t : TE} {σ : L2.St} {H : Hp} {R : VK} (x : V) (h : ∀ R' : VK, R' x H → t σ H R') (k : R x H) : t σ H R := h R k
theorem at_tt {t : TT} {σ : L2.St} {H : Hp} {R : Bool → Hp → Prop} (b : Bool) (h : ∀ R' : Bool → Hp → Prop, (∀ H', Same H H' → R' b H') → t σ H R') (k : ∀ H', Same H H' → R b H') : t σ H R := h R k
theorem at_tt0 {t : TT} {σ : L2.St} {H : Hp} {R : Bool → Hp → Prop} (b : Bool) (h : ∀ R' : Bool → Hp → Prop, R' b H → t σ H R') (k : R b H) : t σ H R := h R k
theorem at_ta0 {t : TA} {σ : L2.St} {H : Hp} {R : List V → Hp → Prop} (xs : List V) (h : ∀ R' : List V → Hp → Prop, R' xs H → t σ H R') (k : R xs H) : t σ H R := h R k
end Lay

set_option Elab.async false
set_option linter.all false
set_option maxRecDepth 100000
set_option maxHeartbeats 4000000
/-! LayK: loops, told whole -/
namespace Lay
open PySem PySem.Spec PyProof.Rows L2
section
variable {K : PySem.W.Frag} {g : TG} {tb : TS} {D : Ends} {σ : L2.St} {H : Hp}
/-- what a walk over the list at l is to keep -/
def LoopL (K : PySem.W.Frag) (g : TG) (tb : TS) (D : Ends) (σ : L2.St) (H : Hp) (l : Addr) (xs : List V) : Prop := ∃ Pv : Nat → L2.St → Hp → Prop, Pv 0 σ H ∧ (∀ i σ' H', i ≤ xs.length → Pv i σ' H' → SqL K H' l xs) ∧
  (∀ i x σ' H', xs[i]? = some x → Pv i σ' H' → g x σ' H' fun σ2 H2 => tb { D with nx := Pv (i + 1), ct := Pv (i + 1), bk := D.nx } σ2 H2) ∧ ∀ σ' H', Pv xs.length σ' H' → D.nx σ' H'
theorem LoopL.run {l : Addr} {xs : List V} (h : LoopL K g tb D σ H l xs) : ∃ W : Nat → Nat → L2.St → Hp → Prop, (∃ m, W 0 m σ H) ∧ ∀ i m σ H, W i m σ H →
    ((Itl K l).stop i H ∧ D.nx σ H) ∨ ((Itl K l).go i H ∧ ∃ N : L2.St → Hp → Prop, (∀ σ' H', N σ' H' → ∃ m', m' < m ∧ W (i + 1) m' σ' H') ∧ ∀ x H', (Itl K l).yld i H x H' → g x σ H' fun σ2 H2 => tb { D with nx := N, ct := N, bk := D.nx } σ2 H2) := by
  obtain ⟨Pv, h0, hl, hs, hd⟩ := h
  exact for_list Pv h0 hl hs hd
/-- for x in [..] -/
theorem for_list_new {args : TA} (xs : List V) (hx : xs.length ≤ sizeLine) (h : ∀ R : List V → Hp → Prop, R xs H → args σ H R) (k : ∀ l, H l = none → LoopL K g tb D σ (upd H l (.lst xs)) l xs) : tFor (iList K (tLst args)) g tb D σ H :=
  h _ ⟨hx, fun l hl => ⟨l, rfl, ⟨xs, SqL.of upd_same⟩, (k l hl).run⟩⟩
/-- for x in a list that stands -/
theorem for_list_at {tl : TE} {l : Addr} {xs : List V} (h : ∀ R : VK, R (.ref l) H → tl σ H R) (hl : SqL K H l xs) (k : LoopL K g tb D σ H l xs) : tFor (iList K tl) g tb D σ H := h _ ⟨l, rfl, ⟨xs, hl⟩, k.run⟩
/-- for x in a list that is made on the way -/
theorem for_list_made {tl : TE} {o : Hp → Addr → Hp} {xs : List V} (h : ∀ R : VK, (∀ l, H l = none → R (.ref l) (upd H l (.lst xs))) → tl σ H R) (k : ∀ l, H l = none → LoopL K g tb D σ (upd H l (.lst xs)) l xs) : tFor (iList K tl) g tb D σ H :=
  h _ fun l hl => ⟨l, rfl, ⟨xs, SqL.of upd_same⟩, (k l hl).run⟩
/-- for k in range(n) -/
def LoopR (g : TG) (tb : TS) (D : Ends) (σ : L2.St) (H : Hp) (n : Nat) : Prop := ∃ Pv : Nat → L2.St → Hp → Prop, Pv 0 σ H ∧
  (∀ i σ' H', i < n → Pv i σ' H' → g (.int (i : Int)) σ' H' fun σ2 H2 => tb { D with nx := Pv (i + 1), ct := Pv (i + 1), bk := D.nx } σ2 H2) ∧ ∀ σ' H', Pv n σ' H' → D.nx σ' H'
theorem for_range_at {ta : TA} {n : Nat} {H1 : Hp} (hn : n < 2 ^ 62) (h : ∀ R : List V → Hp → Prop, R [.int (n : Int)] H1 → ta σ H R) (k : LoopR g tb D σ H1 n) : tFor (iRng1 ta) g tb D σ H := by
  obtain ⟨Pv, h0, hs, hd⟩ := k
  refine h _ ⟨(n : Int), rfl, by omega, by omega, ?_⟩
  rw [Int.toNat_natCast]
  exact for_range (lo := 0) Pv h0 (fun i σ' H' hi hP => by rw [Int.zero_add]; exact hs i σ' H' hi hP) hd
/-- for c in a text -/
def LoopS (g : TG) (tb : TS) (D : Ends) (σ : L2.St) (H : Hp) (a : List Nat) : Prop := ∃ Pv : Nat → L2.St → Hp → Prop, Pv 0 σ H ∧
  (∀ i c σ' H', a[i]? = some c → Pv i σ' H' → g (.str (SX.S [c])) σ' H' fun σ2 H2 => tb { D with nx := Pv (i + 1), ct := Pv (i + 1), bk := D.nx } σ2 H2) ∧ ∀ σ' H', Pv a.length σ' H' → D.nx σ' H'
theorem for_str_at {te : TE} {a : List Nat} {H1 : Hp} (h : ∀ R : VK, R (.str (SX.S a)) H1 → te σ H R) (k : LoopS g tb D σ H1 a) : tFor (iStr te) g tb D σ H := by
  obtain ⟨Pv, h0, hs, hd⟩ := k
  refine h _ ⟨SX.S a, rfl, for_it walk_str Pv h0 (fun _ _ _ _ _ => trivial) ?_ ?_⟩
  · rintro i x σ' H' H2 hi hP ⟨rfl, c, hc, rfl⟩
    exact hs i c σ' H2 (by simpa using hc) hP
  · intro σ' H' hP
    exact hd σ' H' (by simpa using hP)
end
section
variable {g : TG} {tb : TS} {D : Ends} {σ : L2.St} {H : Hp}
/-- for k in a dict that is locked -/
def LoopK (g : TG) (tb : TS) (D : Ends) (σ : L2.St) (H : Hp) (d : Addr) (o : Obj) (kvs : List (Key × V)) : Prop := ∃ Pv : Nat → L2.St → Hp → Prop, Pv 0 σ H ∧ (∀ i σ' H', i ≤ kvs.length → Pv i σ' H' → H' d = some (.frz o (.dK kvs))) ∧
  (∀ i k v σ' H', kvs[i]? = some (k, v) → Pv i σ' H' → g (kV k) σ' H' fun σ2 H2 => tb { D with nx := Pv (i + 1), ct := Pv (i + 1), bk := D.nx } σ2 H2) ∧ ∀ σ' H', Pv kvs.length σ' H' → D.nx σ' H'
theorem for_keys_at {td : TE} {d : Addr} {o : Obj} {kvs : List (Key × V)} (h : ∀ R : VK, R (.ref d) H → td σ H R) (hd : H d = some (.frz o (.dK kvs))) (k : LoopK g tb D σ H d o kvs) : tFor (iKeys td) g tb D σ H := by
  obtain ⟨Pv, h0, hl, hs, hn⟩ := k
  refine h _ ⟨d, o, rfl, .inl ⟨kvs, hd, for_it walk_keys Pv h0 hl ?_ hn⟩⟩
  rintro i x σ' H' H2 hi hP ⟨rfl, k, v, hkv, rfl⟩
  exact hs i k v σ' H2 hkv hP
end
section
variable {K : PySem.W.Frag} {x : V} {t T : String} {H : Hp} {A B : Hp → Prop}
theorem isi_t (k : Kd K H x t) (h : A H) (e : isaB t T = true := by decide) (hT : T ∈ kinds := by decide) : rIsB K [x, .ty T] H (fun z H1 => ∃ c, z = V.bl c ∧ if c = true then A H1 else B H1) :=
  rIsB_i k ⟨_, rfl, by rw [if_pos e]; exact h⟩ hT
theorem isi_f (k : Kd K H x t) (h : B H) (e : isaB t T = false := by decide) (hT : T ∈ kinds := by decide) : rIsB K [x, .ty T] H (fun z H1 => ∃ c, z = V.bl c ∧ if c = true then A H1 else B H1) :=
  rIsB_i k ⟨_, rfl, by rw [if_neg (by rw [e]; decide)]; exact h⟩ hT
theorem isi_nt (k : Kd K H x t) (h : B H) (e : isaB t T = true := by decide) (hT : T ∈ kinds := by decide) : rIsB K [x, .ty T] H (fun z H1 => ∃ c, z = V.bl c ∧ if (!c) = true then A H1 else B H1) :=
  rIsB_i k ⟨_, rfl, by rw [if_neg (by rw [e]; decide)]; exact h⟩ hT
theorem isi_nf (k : Kd K H x t) (h : A H) (e : isaB t T = false := by decide) (hT : T ∈ kinds := by decide) : rIsB K [x, .ty T] H (fun z H1 => ∃ c, z = V.bl c ∧ if (!c) = true then A H1 else B H1) :=
  rIsB_i k ⟨_, rfl, by rw [if_pos (by rw [e]; decide)]; exact h⟩ hT
end
end Lay

set_option Elab.async false
set_option linter.all false
set_option maxRecDepth 100000
set_option maxHeartbeats 4000000
/-! LayL: defs that raise own errors, called by their names -/
namespace Lay
open PySem PySem.Spec PyProof.Rows L2
structure CalN (P : Program) (w : World) (K : PySem.W.Frag) (mg : Str → Option Value) (base : Heap) (k : Nat) (x : Str) (sp : Sp) : Prop where
  ex : ∃ (f : Addr) (fd : FuncData) (ps : List Str), FnOk P w K mg base (L2N.CX P w) k f fd ps sp ∧ mg x = some (.ref f) ∧ PySem.W.keepIn K (.ref f) = true ∧ Binds K fd ps []
theorem calN {P : Program} {w : World} {K : PySem.W.Frag} {mg : Str → Option Value} {base : Heap} {x : Str} {params : Arguments} {body : List Stmt} {scope : Scope} {f : Addr} {fd : FuncData} {N ps : List Str} {k : Nat} {sp : Sp}
    (F : FunD K x x params body scope [] [] f fd) (g : mg x = some (.ref f)) (S : FnScope N ps scope)
    (b : ∀ (kV doc pm : Value) (an : Option Addr) (cdv ct : Value) (us : List Value), us.length = ps.length → bindArgs (PySem.W.fnOf x x params body scope .none kV doc pm an cdv ct) ⟨us, []⟩ = pure (ps.zip us)) (len : ∀ vs H Q E, sp vs H Q E → vs.length = ps.length)
    (inside : ∀ (cdv : Value) (A : Around) (outer : List Env) (s : Shared) (H : Hp) (vs : List V) (Q : VK) (E : XK), Room k (A.deeper (envOfC x scope s.heap.objs.size f cdv)) → sp vs H Q E →
      ∃ t, PSs (cxOf (L2N.CX P w) P w K mg base N x scope f cdv A outer s H E) body t ∧ t { nx := fun _ H' => Q .non H', rt := Q } (L2.start N vs) H) : CalN P w K mg base (k + 1) x sp :=
  ⟨f, fd, ps, F.ok S len inside, g, F.kp, F.bindsN b⟩
theorem pe_cN {X : Cx} {k j : Nat} {x : Str} {sp : Sp} {p pos : Pos} {e : Expr} {es : List Expr} {t : TA} {W : WX} (c : CalN X.prog X.w X.K X.mg X.base k x sp) (hr : Room j X.A) (hk : k ≤ j) (hg : Gl X x) (tk : L2N.Takes X W) (ha : PA X (e :: es) t)
    (hdb : (x == ("__debug__" : Str)) = false := by decide) (he : starEach (e :: es) X.env = (false, eval e X.env) :: starEach es X.env := by rfl) (hpl : (backTo pos (starEach es X.env)).any (·.1) = false := by rfl) :
    PE X (.Call (.Name x p) (e :: es) [] pos) (tCallS sp (WE W) t) := by
  obtain ⟨f, fd, ps, F, hm, kp, b⟩ := c.ex
  exact pe_callS F (hr.mono hk) hg hm kp b (fun σ => L2N.passAt tk σ) ha hdb he hpl
/-- where a def with L2N's exceptions stands -/
theorem takesN {P : Program} {w : World} {K : PySem.W.Frag} {mg : Str → Option Value} {base : Heap} {N : List Str} {qual : Str} {scope : Scope} {f : Addr} {cd : Value} {A : Around} {outer : List Env} {s : Shared} {H : Hp} {E : XK} :
    L2N.Takes (cxOf (L2N.CX P w) P w K mg base N qual scope f cd A outer s H E) (fun cls d _ H => E cls d H) := L2N.takes_of rfl rfl rfl rfl
theorem takesL {P : Program} {w : World} {X : Cx} {A : Around} {outer : List Env} {s : Shared} {H : Hp} {E : XK} {scope : Scope} {f c' : Addr} (hp : X.prog = P) (hw : X.w = w) : L2N.Takes (lamCxN (L2N.CX P w) X A outer s H E scope f c') (fun cls d _ H => E cls d H) := by
  subst hp hw
  exact L2N.takes_of rfl rfl rfl rfl
/-- defs that are handed the handled exception, by their names -/
structure CalE (P : Program) (w : World) (K : PySem.W.Frag) (mg : Str → Option Value) (base : Heap) (k : Nat) (x : Str) (sp : Addr × Obj → Sp) : Prop where
  ex : ∃ (f : Addr) (fd : FuncData) (ps : List Str), FnE P w K mg base C8.CX0 k f fd ps sp ∧ mg x = some (.ref f) ∧ PySem.W.keepIn K (.ref f) = true ∧ Binds K fd ps []
theorem calE {P : Program} {w : World} {K : PySem.W.Frag} {mg : Str → Option Value} {base : Heap} {x : Str} {params : Arguments} {body : List Stmt} {scope : Scope} {f : Addr} {fd : FuncData} {N ps : List Str} {k : Nat} {sp : Addr × Obj → Sp}
    (F : FunD K x x params body scope [] [] f fd) (g : mg x = some (.ref f)) (S : FnScope N ps scope)
    (b : ∀ (kV doc pm : Value) (an : Option Addr) (cdv ct : Value) (us : List Value), us.length = ps.length → bindArgs (PySem.W.fnOf x x params body scope .none kV doc pm an cdv ct) ⟨us, []⟩ = pure (ps.zip us)) (len : ∀ p vs H Q E, sp p vs H Q E → vs.length = ps.length)
    (inside : ∀ (p : Addr × Obj) (cdv : Value) (A : Around) (outer : List Env) (s : Shared) (H : Hp) (vs : List V) (Q : VK) (E : XK), L2H.Hot1 A p → L2H.RoomH k (A.deeper (envOfC x scope s.heap.objs.size f cdv)) → sp p vs H Q E →
      ∃ t, PSs (L2H.cxH C8.CX0 P w K mg base N x scope f cdv A outer s H E p) body t ∧ t { nx := fun _ H' => Q .non H', rt := Q } (L2.start N vs) H) : CalE P w K mg base (k + 1) x sp := by
  refine ⟨f, fd, ps, ?_, g, F.kp, F.bindsN b⟩
  obtain ⟨oc, od, dV, kV, doc, pm, an, cdv, ct, osl, rfl, lk, hcd, _, _⟩ := F.ex
  exact fn_ofE lk hcd S len fun p A outer s H vs Q E hot room prom => inside p cdv A outer s H vs Q E hot room prom
theorem hasP_cx {CX : CXT} {P : Program} {w : World} {K : PySem.W.Frag} {mg : Str → Option Value} {base : Heap} {N : List Str} {qual : Str} {scope : Scope} {f : Addr} {cd : Value} {A : Around} {outer : List Env} {s : Shared} {H : Hp} {E : XK} {p : Addr × Obj} (h : L2H.Hot1 A p) :
    HasP (L2H.cxH CX P w K mg base N qual scope f cd A outer s H E p) p := ⟨⟨h.1, h.2⟩, List.mem_singleton.mpr rfl⟩
theorem pe_cE {X : Cx} {k j : Nat} {x : Str} {sp : Addr × Obj → Sp} {q pos : Pos} {e : Expr} {es : List Expr} {t : TA} {p : Addr × Obj} (c : CalE X.prog X.w X.K X.mg X.base k x sp) (hr : L2H.RoomH j X.A) (hk : k ≤ j) (hp : HasP X p) (hg : Gl X x) (ha : PA X (e :: es) t)
    (hdb : (x == ("__debug__" : Str)) = false := by decide) (he : starEach (e :: es) X.env = (false, eval e X.env) :: starEach es X.env := by rfl) (hpl : (backTo pos (starEach es X.env)).any (·.1) = false := by rfl) :
    PE X (.Call (.Name x q) (e :: es) [] pos) (tCallS (sp p) (fun _ => C8.E0) t) := by
  obtain ⟨f, fd, ps, F, hm, kp, b⟩ := c.ex
  exact pe_callE F (hr.mono hk) hp hg hm kp b (fun σ _ _ _ _ _ _ h => h.elim) ha hdb he hpl
/-- the same for a def without an exception in its hands: FnE by what it promises anywhere -/
structure CalL (P : Program) (w : World) (K : PySem.W.Frag) (mg : Str → Option Value) (base : Heap) (k j : Nat) (x : Str) (SP : (Hp → VK → XK → Prop) → Sp) : Prop where
  ex : ∃ (f : Addr) (fd : FuncData) (ps : List Str), FnL P w K mg base C8.CX0 (L2N.CX P w) k j f fd ps SP ∧ mg x = some (.ref f) ∧ PySem.W.keepIn K (.ref f) = true ∧ Binds K fd ps []
theorem calL {P : Program} {w : World} {K : PySem.W.Frag} {mg : Str → Option Value} {base : Heap} {x : Str} {params : Arguments} {body : List Stmt} {scope : Scope} {f : Addr} {fd : FuncData} {N ps : List Str} {k j : Nat} {SP : (Hp → VK → XK → Prop) → Sp}
    (F : FunD K x x params body scope [] [] f fd) (g : mg x = some (.ref f)) (S : FnScope N ps scope)
    (b : ∀ (kV doc pm : Value) (an : Option Addr) (cdv ct : Value) (us : List Value), us.length = ps.length → bindArgs (PySem.W.fnOf x x params body scope .none kV doc pm an cdv ct) ⟨us, []⟩ = pure (ps.zip us)) (len : ∀ spL vs H Q E, SP spL vs H Q E → vs.length + 1 = ps.length)
    (inside : ∀ (cdv : Value) (A : Around) (outer : List Env) (s : Shared) (H : Hp) (vs : List V) (fl : Addr) (spL : Hp → VK → XK → Prop) (Q : VK) (E : XK), Room k (A.deeper (envOfC x scope s.heap.objs.size f cdv)) → LamOk P w K mg base (L2N.CX P w) j (frs outer) s H fl spL → SP spL vs H Q E →
      ∃ t, PSs (cxOf C8.CX0 P w K mg base N x scope f cdv A outer s H E).nox body t ∧ t { nx := fun _ H' => Q .non H', rt := Q } (L2.start N (.ref fl :: vs)) H) : CalL P w K mg base (k + 1) j x SP := by
  refine ⟨f, fd, ps, ?_, g, F.kp, F.bindsN b⟩
  obtain ⟨oc, od, dV, kV, doc, pm, an, cdv, ct, osl, rfl, lk, hcd, _, _⟩ := F.ex
  refine fn_ofL lk hcd S len fun A outer s H vs fl spL Q E room l prom => ?_
  obtain ⟨t, walk, q⟩ := inside cdv A outer s H vs fl spL Q E room l prom
  exact ⟨t, walk.nox, q⟩
/-- a(), a the local that bears the lambda; its exceptions are those that are wished here -/
def tActW (i : Nat) (fl : Addr) (spL : Hp → VK → XK → Prop) (W : WX) : TE := fun σ H Q => ∃ Ech : XK, (∀ cls d H', Ech cls d H' → W cls d σ H') ∧ σ[i]? = some (some (.ref fl)) ∧ spL H Q Ech
theorem pe_actW {X : Cx} {W : WX} {j i : Nat} {a : Str} {f : Addr} {spL : Hp → VK → XK → Prop} {p1 p2 : Pos} (hex : X.ex = []) (l : LamOk X.prog X.w X.K X.mg X.base (L2N.CX X.prog X.w) j X.fs X.s_0 X.H_0 f spL) (room : Room j X.A) (tk : L2N.Takes X W)
    (hN : X.N[i]? = some a) (hv : Vis X.env.scope a) (hd : (a == ("__debug__" : Str)) = false := by decide) (hcd : (a == ("__classdict__" : Str)) = false := by decide) :
    PE X (.Call (.Name a p1) [] [] p2) (tActW i f spL W) := by
  constructor
  rintro pins s σ H Q I ⟨Ech, hW, hs, prom⟩
  refine wpAny_Call_Name_kw (thn ((pe_var (pos := p1) (i := i) hN hv hd hcd).run pins s σ H (fun v H1 => v = .ref f ∧ H1 = H) I ⟨.ref f, hs, rfl, rfl⟩) ?_)
  rintro u s1 ⟨v, H1, I1, r1, rfl, rfl⟩
  obtain rfl : u = Value.ref f := r1
  obtain ⟨at_f, runs⟩ := lam_inner hex I1 l X.A X.stack s1 H1 Q Ech room I1.env0 Un.refl prom
  refine PySem.W.callWith_F0 at_f (wpAny_call (codeAny_mono runs ?_))
  rintro (er | _ | _ | _ | w) s' out
  all_goals first
    | exact tk _ s' (L2N.XE.of_call I1 hW out)
    | exact I1.after out
    | exact False.elim out
theorem takes_no {X : Cx} : L2N.Takes X (fun _ _ _ _ => False) := fun _ _ x => by
  obtain ⟨_, _, _, _, _, _, _, _, _, _, _, _, _, _, _, _, z⟩ := x
  exact z.elim
end Lay

set_option Elab.async false
set_option linter.all false
set_option maxRecDepth 100000
set_option maxHeartbeats 4000000
/-! LayM: one sign many times; the drawing laws' bag -/
namespace Lay
open PySem PySem.Spec PyProof.Rows L2
open SX (S S_len)
theorem fold_rep (c : Nat) : ∀ (n : Nat) (acc : Array Nat), (List.replicate n (#[c] : Array Nat)).foldl (· ++ ·) acc = acc ++ (List.replicate n c).toArray
  | 0, acc => by simp
  | n + 1, acc => by
    rw [List.replicate_succ, List.foldl_cons, fold_rep c n, List.replicate_succ]
    apply Array.ext'
    simp
/-- 'x' * n -/
def rRepS : R2 := fun x y H Q => ∃ (c : Nat) (n : Nat), x = .str (S [c]) ∧ y = .int (n : Int) ∧ 2 ≤ n ∧ n ≤ 1000000 ∧ Q (.str (S (List.replicate n c))) H
theorem op_repS {X : Cx} : OpR X (binaryOp .Mult) rRepS := by
  rintro pins s σ H x y v u Q I rx ry ⟨c, n, rfl, rfl, h2, hm, q⟩
  obtain ⟨t, rfl⟩ := rx
  obtain ⟨t', rfl⟩ := ry
  have l1 : (S [c]).length = 1 := S_len _
  refine P.mul_str ?_ ?_ ?_ ?_
  · rw [decide_eq_false (show ¬ (n : Int) < -(2 ^ 63) by omega), decide_eq_false (show ¬ (n : Int) ≥ 2 ^ 63 by omega)]
    rfl
  · intro _ _ z
    rw [l1] at z
    have : (2 : Int) ^ 63 - 1 = 9223372036854775807 := by decide
    rw [this] at z
    have e : (1 : Int) ≤ 9223372036854775807 / (n : Int) := (Int.le_ediv_iff_mul_le (by omega)).mpr (by omega)
    have z : (1 : Int) > 9223372036854775807 / (n : Int) := z
    omega
  · intro _ _
    rw [l1]
    refine decide_eq_false fun z => ?_
    have : (16777216 : Nat) < 1 * ((n : Int)).toNat := by
      have := sizeLine_eq
      omega
    omega
  · rw [if_neg (by omega), if_neg (by
      rw [l1]
      have : ((n : Int) == 1) = false := by
        rw [beq_eq_false_iff_ne]
        omega
      rw [this]
      decide)]
    have e : (⟨(List.replicate ((n : Int)).toNat (S [c]).cps).foldl (· ++ ·) #[]⟩ : Str) = S (List.replicate n c) := by
      have := fold_rep c n #[]
      rw [Int.toNat_natCast]
      show (⟨_⟩ : Str) = ⟨_⟩
      congr 1
      rw [show (S [c]).cps = (#[c] : Array Nat) from rfl, this]
      simp
    rw [e]
    refine ⟨?_, ⟨.str _, H, I.tok _, ⟨_, rfl⟩, q⟩⟩
    rw [S_len, List.length_replicate, sizeLine_eq]
    omega
/-- for k in range(e), e not known beforehand -/
theorem for_range_any {g : TG} {tb : TS} {D : Ends} {σ : L2.St} {H : Hp} {ta : TA} {Pn : Nat → Hp → Prop} (h : ∀ R : List V → Hp → Prop, (∀ n H1, Pn n H1 → R [.int (n : Int)] H1) → ta σ H R) (k : ∀ n H1, Pn n H1 → n < 2 ^ 62 ∧ LoopR g tb D σ H1 n) : tFor (iRng1 ta) g tb D σ H := by
  refine h _ fun n H1 p => ?_
  obtain ⟨hn, Pv, h0, hs, hd⟩ := k n H1 p
  refine ⟨(n : Int), rfl, by omega, by omega, ?_⟩
  rw [Int.toNat_natCast]
  exact for_range (lo := 0) Pv h0 (fun i σ' H' hi hP => by rw [Int.zero_add]; exact hs i σ' H' hi hP) hd
/-! ### the bag -/
/-- the bag at b: what is drawn from, the place in it, the number that is eaten up, the mixed number, two counts -/
def Bag (H : Hp) (b : Addr) : Prop := ∃ (l : Addr) (ns : List Int) (pos : Nat) (big mixed cnt left : Int), H b = some (.lst [.ref l, .int (pos : Int), .int big, .int mixed, .int cnt, .int left]) ∧ H l = some (.lst (ns.map V.int)) ∧ l ≠ b ∧ 0 ≤ mixed ∧ mixed < 2147483549
/-- all but the bag stays -/
structure Ex (b : Addr) (H H' : Hp) : Prop where
  keep : ∀ a o, a ≠ b → H a = some o → H' a = some o
  bag : Bag H' b
theorem Ex.trans {b : Addr} {H H1 H2 : Hp} (x : Ex b H H1) (y : Ex b H1 H2) : Ex b H H2 := ⟨fun a o n e => y.keep a o n (x.keep a o n e), y.bag⟩
theorem Bag.same {b : Addr} {H H' : Hp} (g : Bag H b) (e : Same H H') : Bag H' b := by
  obtain ⟨l, ns, pos, big, mixed, cnt, left, h1, h2, h3⟩ := g
  exact ⟨l, ns, pos, big, mixed, cnt, left, e _ _ h1, e _ _ h2, h3⟩
theorem Ex.of {b : Addr} {H H' : Hp} (g : Bag H b) (e : Same H H') : Ex b H H' := ⟨fun a o _ h => e a o h, g.same e⟩
theorem Ex.more {b : Addr} {H H1 H2 : Hp} (x : Ex b H H1) (e : Same H1 H2) : Ex b H H2 := x.trans (Ex.of x.bag e)
theorem Bag.at {b : Addr} {H : Hp} (g : Bag H b) : ∃ xs, H b = some (.lst xs) ∧ xs.length = 6 := by
  obtain ⟨l, ns, pos, big, mixed, cnt, left, h1, _⟩ := g
  exact ⟨_, h1, rfl⟩
theorem Ex.free {b a : Addr} {H H' : Hp} (x : Ex b H H') (hb : ∃ o, H b = some o) (h : H' a = none) : H a = none := by
  cases e : H a with
  | none => rfl
  | some o =>
    by_cases n : a = b
    · subst n
      obtain ⟨xs, h1, _⟩ := x.bag.at
      rw [h] at h1
      cases h1
    · rw [x.keep a o n e] at h
      cases h
/-- a cut behind a statement -/
theorem seq_cut {t u : TS} {D : Ends} {σ : L2.St} {H : Hp} (Pq : L2.St → Hp → Prop) (h : ∀ D' : Ends, D'.rt = D.rt → (∀ σ' H', Pq σ' H' → D'.nx σ' H') → t D' σ H) (k : ∀ σ' H', Pq σ' H' → u D σ' H') : tSeq t u D σ H := h _ rfl k
end Lay

set_option Elab.async false
set_option linter.all false
set_option maxRecDepth 100000
set_option maxHeartbeats 4000000
/-! LayN: expressions that want a token out: calls, methods, comprehensions over them -/
namespace Lay
open PySem PySem.Spec PyProof.Rows L2
open C8 (Cal)
section
variable {X : Cx}
theorem pet_call {CX : CXT} {k : Nat} {f : Addr} {fd : FuncData} {ps : List Str} {ds : List Value} {dvs : List V} {sp : Sp} {E : XK} {x : Str} {e : Expr} {es : List Expr} {t : TA} {p pos : Pos}
    (F : FnOk X.prog X.w X.K X.mg X.base CX k f fd ps sp) (hr : Room k X.A) (hg : Gl X x) (hm : X.mg x = some (.ref f)) (hk : PySem.W.keepIn X.K (.ref f) = true) (hb : Binds X.K fd ps []) (hx : ∀ σ, PassesAt CX X σ E)
    (ha : PAT X (e :: es) t) (hdb : (x == ("__debug__" : Str)) = false := by decide) (he : starEach (e :: es) X.env = (false, eval e X.env) :: starEach es X.env := by rfl) (hpl : (backTo pos (starEach es X.env)).any (·.1) = false := by rfl) :
    PET X (.Call (.Name x p) (e :: es) [] pos) (tCallS sp (fun _ => E) t) := by
  intro pins s σ H Q h0 I h
  refine wpAny_Call_Name_kw (ld_glob I hg hm ?_ hdb)
  refine PySem.W.callWith_K (h₀ := X.base) I.ok.mod.kin hk (thn (ha pos pins s σ H _ h0 I h) fun us s1 ⟨vs, H1, I1, r, q⟩ => ⟨I1.kIn, ?_⟩) he hpl
  exact run_fnS (E := fun _ => E) F hr hb (hx σ) I1 r q
theorem pet_m1 {o e : Expr} {to te : TE} {id : String} {name : Str} {apos pos : Pos} {r : V → List V → Hp → VK → Prop} (slot : Slot "str" name id) (ty : typeOf (.builtin id) = pure (.type "method_descriptor")) (rule : MtR X id r) (ho : PET X o to) (he : PE X e te)
    (hs : starEach [e] X.env = [(false, eval e X.env)] := by rfl) (hbase : attributeBase o name X.env (eval o X.env) = eval o X.env := by rfl) (hline : (apos.endLine == pos.line) = true := by rfl) :
    PET X (.Call (.Attribute o name apos) [e] [] pos) (tM1 r to te) := by
  intro pins s σ H Q h0 I h
  refine PySem.Call_method1 hbase hs hline (thn (ho pins s σ H _ h0 I h) fun v s1 ⟨x, H1, I1, r1, q1⟩ => ?_)
  obtain ⟨⟨a, rfl⟩, q1⟩ := q1
  obtain ⟨t, rfl⟩ := _root_.id r1
  refine ⟨"str", _, PySem.F.plainAttrs_str, slot, ty, typeIs_str _ _ _, (fun _ e => nomatch e), Calls.callWith_builtin rfl (Calls.evalArgs_plain (Calls.spliced_cons ?_))⟩
  exact thn (he.run pins s1 σ H1 _ I1 q1) fun u s2 ⟨y, H2, I2, r2, q2⟩ => Calls.spliced_nil (rule pins s2 σ H2 _ [y] _ [u] Q I2 r1 (.cons r2 .nil) q2)
theorem pet_lcW {elt tg l : Expr} {ifs : List Expr} {scope : Scope} {own : List (Str × Nat)} {pos : Pos} {tl : TE} {g : TG} {tt : TT} {te : TE} (hw : Warm X) (hN : X.N.Nodup) (hl : PET X l tl) (ok : BlkOk X.N X.env.scope scope own)
    (hg : ∀ s H C cl fp, PG (blkP X s H scope (compEnvC scope cl C X.env) fp) tg g) (ht : ∀ s H C cl fp, PTs (blkP X s H scope (compEnvC scope cl C X.env) fp) ifs tt)
    (he : ∀ s H C cl fp, PE (blkP X s H scope (compEnvC scope cl C X.env) fp) elt te) (hs : ∀ x, foldedSetIterable l X.env x = pure x := by intro _; rfl) :
    PET X (.ListComp elt [⟨tg, l, ifs, 0⟩] scope pos) (tLcW X.K tl g tt te (own.map (·.2))) :=
  fun pins s σ H Q h0 I h => lcW_at hw hN (fun R r => hl pins s σ H R h0 I r) ok hg ht he I h hs
theorem psstNox {sts : List Stmt} {t : TS} (h : PSsT X.nox sts t) : PSsT X sts t := fun pins s σ H D h0 I hw =>
  wpAny_mono (h pins s σ H D h0 (I.wish _) hw) (fun _ _ q => q.unwish) fun _ _ z => False.elim z
end
/-- a def in calm, one token out -/
theorem calT {P : Program} {w : World} {K : PySem.W.Frag} {mg : Str → Option Value} {base : Heap} {x : Str} {params : Arguments} {body : List Stmt} {scope : Scope} {f : Addr} {fd : FuncData} {N ps : List Str} {k : Nat} {sp : Sp}
    (F : FunD K x x params body scope [] [] f fd) (g : mg x = some (.ref f)) (S : FnScope N ps scope) (hnc : ∀ y ∈ scope.names, y.2 ≠ .cell) (hps : 1 ≤ ps.length)
    (b : ∀ (kV doc pm : Value) (an : Option Addr) (cdv ct : Value) (us : List Value), us.length = ps.length → bindArgs (PySem.W.fnOf x x params body scope .none kV doc pm an cdv ct) ⟨us, []⟩ = pure (ps.zip us)) (len : ∀ vs H Q E, sp vs H Q E → vs.length = ps.length)
    (inside : ∀ (cdv : Value) (A : Around) (outer : List Env) (s : Shared) (H : Hp) (vs : List V) (Q : VK) (E : XK), Room k (A.deeper (envOfC x scope s.heap.objs.size f cdv)) → sp vs H Q E →
      ∃ t, PSsT (cxOf C8.CX0 P w K mg base N x scope f cdv A outer s H E).nox body t ∧ t { nx := fun _ H' => Q .non H', rt := Q } (L2.start N vs) H) : Cal P w K mg base (k + 1) x sp [] := by
  obtain ⟨oc, od, dV, kV, doc, pm, an, cdv, ct, osl, rfl, lk, hcd, _, _⟩ := F.ex
  refine ⟨f, _, ps, [], fn_ofT lk hcd S hnc hps len fun A outer s H vs Q E hr hsp => ?_, g, F.kp, F.bindsN b, .nil⟩
  obtain ⟨t, walk, q⟩ := inside cdv A outer s H vs Q E hr hsp
  exact ⟨t, psstNox walk, q⟩
end Lay

set_option Elab.async false
set_option linter.all false
set_option maxRecDepth 100000
set_option maxHeartbeats 4000000
/-! LayO: len(set(texts)): as many as the texts exactly if no text stands twice -/
namespace Lay
open PySem PySem.Spec PyProof.Rows L2
/-- c texts of the first i, all of them exactly if none stands twice -/
def Cnt (xs : List Str) (i c : Nat) : Prop := c ≤ i ∧ (c = i ↔ (xs.take i).Nodup)
theorem Cnt.next {xs : List Str} {i c : Nat} {x : Str} (h : Cnt xs i c) (hx : xs[i]? = some x) : Cnt xs (i + 1) (if (xs.take i).any (· == x) = true then c else c + 1) := by
  obtain ⟨hi, ex⟩ := List.getElem?_eq_some_iff.mp hx
  have tk : xs.take (i + 1) = xs.take i ++ [x] := by rw [List.take_succ_eq_append_getElem hi, ex]
  have mem : (xs.take i).any (· == x) = true ↔ x ∈ xs.take i := by
    rw [List.any_eq_true]
    exact ⟨fun ⟨y, hy, e⟩ => beq_iff_eq.mp e ▸ hy, fun hy => ⟨x, hy, beq_self_eq_true x⟩⟩
  have nd : (xs.take (i + 1)).Nodup ↔ (xs.take i).Nodup ∧ x ∉ xs.take i := by
    rw [tk, List.nodup_append]
    exact ⟨fun z => ⟨z.1, fun q => z.2.2 x q x (List.mem_singleton.mpr rfl) rfl⟩, fun z => ⟨z.1, by simp, fun a ha b hb e => z.2 (by rw [← List.mem_singleton.mp hb, ← e]; exact ha)⟩⟩
  obtain ⟨h1, h2⟩ := h
  by_cases m : x ∈ xs.take i
  · rw [if_pos (mem.mpr m)]
    exact ⟨by omega, ⟨fun e => absurd e (by omega), fun z => absurd m (nd.mp z).2⟩⟩
  · rw [if_neg fun z => m (mem.mp z)]
    exact ⟨by omega, ⟨fun e => nd.mpr ⟨h2.mp (by omega), m⟩, fun z => by have := h2.mpr (nd.mp z).1; omega⟩⟩
section
variable {prog : Program} {w : World} {A : Around} {R : Result → Shared → Prop} {I : Addr} {fp wr : List Addr} {G : Array GenState → Array GenState → Prop} {n : Nat} {P : Nat → Value → Prop} {St : Nat → Shared → Prop}
abbrev Texts (prog : Program) (w : World) (xs : List Str) (D : Addr) (i : Nat) (h : Heap) : Prop := ∃ c, Cnt xs i c ∧ h.SetOf (PySem.strKind prog w) D (fun y => (xs.take i).any (· == y)) c
theorem Texts.at {xs : List Str} {D : Addr} {i : Nat} {h h' : Heap} (t : Texts prog w xs D i h) (k : ∀ o, h.get? D = some o → h'.get? D = some o) : Texts prog w xs D i h' := by
  obtain ⟨c, hc, o, es, ep, tb, ho, rest⟩ := t
  exact ⟨c, hc, o, es, ep, tb, k _ ho, rest⟩
theorem texts_loop (W : WalksS prog w A.in1 I fp wr G n P St) (D : Addr) (nfp : D ∉ fp) (xs : List Str) (size : xs.length = n) (few : n < 4000) (val : ∀ i v, P i v → ∃ t, v = .str (xs.getD i Str.empty) t) :
    ∀ (k i : Nat) (s : Shared), n - i = k → i ≤ n → St i s → Texts prog w xs D i s.heap → (∀ s', Moved (D :: wr) G s s' → Texts prog w xs D n s'.heap → R (.ok (.ret .none)) s') → codeAny (model prog w) A (.builtin "set.update.loop" ⟨[.ref D, .ref I], []⟩) R s := by
  have nwr : D ∉ wr := fun z => nfp (W.sub _ z)
  have wider : ∀ b ∈ wr, b ∈ D :: wr := fun b z => List.mem_cons_of_mem _ z
  intro k
  induction k with
  | zero =>
    intro i s e le st T fin
    obtain rfl : i = n := by omega
    refine codeAny_builtin PyProof.Rows.F.entry_set_update_loop ?_; rw [Around.under_plainId PyProof.Rows.F.plain_set_update_loop _]
    refine wpAny_bind (W.done s _ _ st fun s' mv => ?_)
    exact wpAny_pure (fin s' (mv.mono wider) (T.at fun o z => mv.heap D o nwr z))
  | succ k ih =>
    intro i s e le st T fin
    have lt : i < n := by omega
    refine codeAny_builtin PyProof.Rows.F.entry_set_update_loop ?_; rw [Around.under_plainId PyProof.Rows.F.plain_set_update_loop _]
    refine wpAny_bind (W.item i s _ _ lt st fun v s1 hP st1 mv => ?_)
    obtain ⟨t, rfl⟩ := val i v hP
    obtain ⟨c, cn, so⟩ := T.at (h' := s1.heap) fun o z => mv.heap D o nwr z
    have xi : xs[i]? = some (xs.getD i Str.empty) := by rw [List.getD_eq_getElem?_getD, List.getElem?_eq_getElem (by omega)]; rfl
    refine wpAny_bind (wpAny_holding ?_); unfold setAdd
    refine wpAny_holding (wpAny_bind ((PySem.strKind prog w).pyHash (k := xs.getD i Str.empty) (strKind_is _ _ _ _) ?_))
    have c1 := cn.1
    refine wpAny_setAddHashed_of (knd := PySem.strKind prog w) (s := { s1 with toks := s1.toks + 1 }) (strKind_is _ _ _ _) rfl so (by unfold scanBound; omega) fun h2 sb so2 => ?_
    have tx : Texts prog w xs D (i + 1) h2 := by
      refine ⟨_, cn.next xi, SetOf_congr so2 (fun y => ?_) rfl⟩
      obtain ⟨hi, ex⟩ := List.getElem?_eq_some_iff.mp xi
      rw [show xs.take (i + 1) = xs.take i ++ [xs.getD i Str.empty] by rw [List.take_succ_eq_append_getElem hi, ex], List.any_append]
      congr 1
      generalize xs.getD i Str.empty = X
      rw [Bool.eq_iff_iff]
      refine ⟨fun e => ?_, fun e => ?_⟩
      · rw [of_decide_eq_true e]
        show ((X == X) || false) = true
        rw [Bool.or_false]
        exact beq_self_eq_true X
      · have e : ((X == y) || false) = true := e
        rw [Bool.or_false] at e
        exact decide_eq_true (beq_iff_eq.mp e).symm
    refine wpAny_pure ⟨plainId_quiet PyProof.Rows.F.plain_set_update_loop _, ih (i + 1) _ (by omega) lt (W.frame _ s1 _ _ st1 (Nat.le_succ _) fun b hb o z => (sb.2 b (fun q => nfp (q ▸ hb))).trans z) tx fun s3 mv3 T3 => ?_⟩
    exact fin s3 (Moved.trans W.gtrans ((mv.mono wider).then_heap (Nat.le_succ _) fun b o hb z => (sb.2 b (fun q => hb (q ▸ List.mem_cons_self))).trans z) mv3) T3
/-- set(l), l a list of texts -/
theorem set_of_texts {E : Value → Shared → Prop} {s : Shared} {l : Addr} {items : Array Value} {xs : List Str} {Q : Value → Shared → Prop} (calm : A.handled = none) (hl : s.heap.IsList l items) (hi : StrsAre items.toList xs) (few : xs.length < 4000)
    (fin : ∀ (h' : Heap) (tk : Nat), Texts prog w xs s.heap.objs.size xs.length h' → (∀ b o, b < s.heap.objs.size → s.heap.get? b = some o → h'.get? b = some o) → Q (.ref s.heap.objs.size) { s with heap := h', toks := tk }) :
    wpAny (model prog w) A (call (.type "set") [.ref l]) Q E s := by
  have size : xs.length = items.size := by rw [← StrsAre.len_eq hi, Array.length_toList]
  obtain ⟨c, tl, hmro⟩ := PySem.F.called_set.mro
  have a1 := PySem.F.called_set.made; have a2 := PySem.F.called_set.sub; have a3 := PySem.F.called_set.notType
  have a4 := PySem.F.called_set.canCreate; have a5 := PySem.F.typeCall_set_1 (.ref l)
  refine wpAny_call (codeAny_of_tree ?_)
  show wpAny _ _ (callAny (.type "set") _) _ _ _
  refine wpAny_pure ⟨Code.quiet_builtin _ (by decide +kernel), codeAny_builtin PySem.F.entry_type_call ?_⟩; rw [Around.under_plain (weight_type_call_type "set" [.ref l] []) rfl]
  repeat (any_goals (first | assumption | wp_step))
  generalize hD : s.heap.objs.size = D at *
  refine codeAny_mono (code_set_new_1 (.ref l) (E := E) (Q₁ := fun obj s1 => ∃ led : Bool, obj = .ref D ∧ s1 = { s with heap := s.heap.push { cls := .type "set", dict := none, data := .set #[] 0 (.fresh 0 0 led) } }) fun led => ⟨led, by rw [hD], rfl⟩) fun r s1 hr => ?_
  cases r with
  | error e => exact hr
  | ok fl => cases fl with
    | ret obj =>
      obtain ⟨led, rfl, rfl⟩ := hr
      generalize eN : s.heap.push { cls := .type "set", dict := none, data := .set #[] 0 (.fresh 0 0 led) } = N
      have nD : N.get? D = some { cls := .type "set", dict := none, data := .set #[] 0 (.fresh 0 0 led) } := by rw [← eN, ← hD]; exact Heap.get?_push_size _ rfl
      have nk : ∀ b o, s.heap.get? b = some o → N.get? b = some o := fun b o z => by rw [← eN]; exact Heap.get?_push_of_some _ z
      have nsz : N.objs.size = D + 1 := by rw [← eN, Heap.size_push, hD]
      have ty : Shared.TypeIs { s with heap := N } (.ref D) "set" := ⟨_, nD, rfl⟩
      have b1 := PySem.F.called_set.init.lookup; have b2 := PySem.F.called_set.init.bind (.ref D)
      repeat (any_goals (first | assumption | wp_step))
      refine codeAny_mono (codeAny_call_builtin (R := wants (fun r s2 => r = .none ∧ ∃ h' tk, s2 = { s with heap := h', toks := tk } ∧ Texts prog w xs D xs.length h' ∧ ∀ b o, b < D → s.heap.get? b = some o → h'.get? b = some o) E) PySem.F.called_set.init.plain PySem.F.entry_set_init (check_set_init_1 ty ?_)) fun r2 s2 hr2 => ?_
      · obtain ⟨⟨oc, od, odt, osl⟩, ho, hc, nl, hd⟩ := hl
        simp only at hc hd
        subst hc hd
        have ho2 := nk _ _ ho
        have c1 := PySem.F.sub_list_set; have c2 := PySem.F.sub_list_frozenset
        have c3 : (Value.type "list" == Value.type "dict") = false := by decide
        have li : N.IsList l items := ⟨_, ho2, rfl, nl, rfl⟩
        unfold Builtin.«set.__init__» noKeywords Builtin.Frozenset.updateFrom
        generalize hPI : pyIter = PI
        wp_walk
        subst hPI
        refine wpAny_pyIter_list li (wpAny_bind (wpAny_runValue ?_))
        have lD : l < D := by rw [← hD]; exact Heap.lt_size ho
        have nl2 : l ≠ N.objs.size := by rw [nsz]; exact Nat.ne_of_lt (Nat.lt_succ_of_lt lD)
        have nfp : D ∉ [N.objs.size, l] := by
          rw [nsz]
          simp only [List.mem_cons, List.not_mem_nil, or_false, not_or]
          exact ⟨Nat.ne_of_lt (Nat.lt_succ_self D), Nat.ne_of_gt lD⟩
        have val : ∀ (i : Nat) (v : Value), items[i]? = some v → ∃ t, v = .str (xs.getD i Str.empty) t := fun i v hv => SS.strs_at hi i v (by rw [Array.getElem?_toList]; exact hv)
        refine texts_loop ((Walks.list (by simp [calm]) _ l nl2 items).toS) D nfp xs size (by rw [← size]; exact few) val (items.size - 0) 0 _ (by omega) (Nat.zero_le _) ⟨⟨_, Heap.get?_push_size _ rfl, rfl, rfl⟩, (li.push _)⟩ ?_ ?_
        · refine ⟨0, ⟨Nat.le_refl _, by simp⟩, PyProof.Rows.SetOf_congr ((PyProof.Rows.setObjOf_fresh (knd := PySem.strKind prog w) led).setOf (Heap.get?_push_of_some _ nD) (by unfold scanBound; omega)) (fun _ => rfl) rfl⟩
        · intro s3 mv T3
          obtain ⟨h3, g3, d3, t3, os3⟩ := s3
          obtain rfl : g3 = s.gens := mv.gens
          obtain rfl : d3 = s.drawn := mv.drawn
          obtain rfl : os3 = s.os := mv.os
          show wpAny _ _ _ _ _ _
          refine wpAny_pure ?_
          show wpAny _ _ (ret Value.none) _ _ _
          refine wpAny_pure ⟨rfl, h3, t3, rfl, by rw [size]; exact T3, fun b o hb z => mv.heap b o ?_ (Heap.get?_push_of_some _ (nk _ _ z))⟩
          simp only [List.mem_cons, List.not_mem_nil, or_false, not_or]
          exact ⟨Nat.ne_of_lt hb, by rw [nsz]; exact Nat.ne_of_lt (Nat.lt_succ_of_lt hb)⟩
      · cases r2 with
        | error e => exact hr2
        | ok fl2 => cases fl2 with
          | ret r =>
            obtain ⟨rfl, h3, t3, rfl, T3, k3⟩ := hr2
            repeat (any_goals (first | assumption | wp_step))
            exact fin _ _ T3 k3
          | _ => exact hr2.elim
    | _ => exact hr.elim
end
/-- len(set(a)) -/
def tLenTexts (K : PySem.W.Frag) (ta : TE) : TE := fun σ H Q => ta σ H fun x H1 => ∃ (l : Addr) (xs : List Str), x = .ref l ∧ SqL K H1 l (xs.map V.str) ∧ xs.length < 4000 ∧ ∀ c : Nat, c ≤ xs.length → (c = xs.length ↔ xs.Nodup) → Q (.int c) H1
theorem texts_are : ∀ {xs : List Str} {us : List Value}, Vals (xs.map V.str) us → StrsAre us xs
  | [], _, .nil => .nil
  | x :: xs, _, .cons ⟨t, e⟩ r => by
    subst e
    exact .cons x t (texts_are r)
theorem pe_lenTexts {X : Cx} {a : Expr} {ta : TE} {p p2 q pos : Pos} (hc : X.calm = true) (hg : Gl X "len") (hm : X.mg "len" = none) (hg2 : Gl X "set") (hm2 : X.mg "set" = none) (ha : PE X a ta)
    (na : starEach [a] X.env = (false, eval a X.env) :: starEach [] X.env := by rfl) : PE X (.Call (.Name "len" p) [.Call (.Name "set" p2) [a] [] q] [] pos) (tLenTexts X.K ta) := by
  refine ⟨fun pins s σ H Q I h => Call_ (ld_blt I hg hm boot_len (callWith_builtin1 (args_cons (Call_ (ld_blt I hg2 hm2 boot_set (callWith_type1 (args_cons (thn (ha.run pins s σ H _ I h) fun v s1 ⟨x, H1, I1, r1, q1⟩ => args_nil ?_) na) na rfl))) rfl) rfl rfl))⟩
  obtain ⟨l, xs, rfl, hq, few, q1⟩ := q1
  cases r1
  obtain ⟨its, r, pl, hz⟩ := I1.list hq
  refine set_of_texts (xs := xs) (I1.ok.hd hc) pl.isList (by simpa using texts_are r) few fun h' tk ⟨c, cn, so⟩ hk => args_nil ?_
  obtain ⟨o, es, ep, t, ho, hex, hd, _, _, _, hf, hn⟩ := so
  have I2 : L2.Inv X pins σ H1 { s1 with heap := h', toks := tk } := I1.kept fun b o e => hk b o (Heap.lt_size e) e
  have c1 := cn.1
  have c2 := cn.2
  rw [List.take_length] at c2
  exact call_len_set ho hex hd hf (by rw [hn]; omega) ⟨.int c, H1, I2.tok _, ⟨_, by rw [hn]⟩, q1 c c1 c2⟩
end Lay

set_option Elab.async false
set_option linter.all false
set_option maxRecDepth 100000
set_option maxHeartbeats 4000000
/-! LayP: methods and makers of own classes by their FunD; own exceptions over any base that has one field -/
namespace Lay
open PySem PySem.Spec PyProof.Rows L2
open C8 (Cal Mak Met)
section
variable {P : Program} {w : World} {K : PySem.W.Frag} {mg : Str → Option Value} {base : Heap} {x m qual : Str} {params : Arguments} {body : List Stmt} {scope : Scope} {f C : Addr} {fd : FuncData} {N ps : List Str} {k : Nat} {sp : Sp}
theorem makD (M : Mk K C f) (hm : mg x = some (.ref C)) (F : FunD K "__init__" qual params body scope [] [] f fd) (S : FnScope N ps scope)
    (b : ∀ (kV doc pm : Value) (an : Option Addr) (cdv ct : Value) (us : List Value), us.length = ps.length → bindArgs (PySem.W.fnOf "__init__" qual params body scope .none kV doc pm an cdv ct) ⟨us, []⟩ = pure (ps.zip us)) (len : ∀ vs H Q E, sp vs H Q E → vs.length = ps.length)
    (inside : ∀ (cdv : Value) (A : Around) (outer : List Env) (s : Shared) (H : Hp) (vs : List V) (Q : VK) (E : XK), Room k (A.deeper (envOfC qual scope s.heap.objs.size f cdv)) → sp vs H Q E →
      ∃ t, PSs (cxOf C8.CX0 P w K mg base N qual scope f cdv A outer s H E).nox body t ∧ t { nx := fun _ H' => Q .non H', rt := Q } (L2.start N vs) H) : Mak P w K mg base (k + 1) x C sp [] := by
  refine ⟨f, fd, ps, [], M, F.ok S len fun cdv A outer s H vs Q E room prom => ?_, hm, F.bindsN b, .nil⟩
  obtain ⟨t, walk, q⟩ := inside cdv A outer s H vs Q E room prom
  exact ⟨t, walk.nox, q⟩
theorem metD (c : Cls K C) (me : Meth K C m f) (F : FunD K m qual params body scope [] [] f fd) (S : FnScope N ps scope)
    (b : ∀ (kV doc pm : Value) (an : Option Addr) (cdv ct : Value) (us : List Value), us.length = ps.length → bindArgs (PySem.W.fnOf m qual params body scope .none kV doc pm an cdv ct) ⟨us, []⟩ = pure (ps.zip us)) (len : ∀ vs H Q E, sp vs H Q E → vs.length = ps.length)
    (inside : ∀ (cdv : Value) (A : Around) (outer : List Env) (s : Shared) (H : Hp) (vs : List V) (Q : VK) (E : XK), Room k (A.deeper (envOfC qual scope s.heap.objs.size f cdv)) → sp vs H Q E →
      ∃ t, PSs (cxOf C8.CX0 P w K mg base N qual scope f cdv A outer s H E).nox body t ∧ t { nx := fun _ H' => Q .non H', rt := Q } (L2.start N vs) H) : Met P w K mg base (k + 1) C m sp [] := by
  refine ⟨f, fd, ps, [], c, me, F.ok S len fun cdv A outer s H vs Q E room prom => ?_, F.bindsN b, .nil⟩
  obtain ⟨t, walk, q⟩ := inside cdv A outer s H vs Q E room prom
  exact ⟨t, walk.nox, q⟩
/-- a method that raises own errors -/
structure MetN (P : Program) (w : World) (K : PySem.W.Frag) (mg : Str → Option Value) (base : Heap) (k : Nat) (C : Addr) (m : Str) (sp : Sp) : Prop where
  ex : ∃ (f : Addr) (fd : FuncData) (ps : List Str), Cls K C ∧ Meth K C m f ∧ FnOk P w K mg base (L2N.CX P w) k f fd ps sp ∧ Binds K fd ps []
theorem metN (c : Cls K C) (me : Meth K C m f) (F : FunD K m qual params body scope [] [] f fd) (S : FnScope N ps scope)
    (b : ∀ (kV doc pm : Value) (an : Option Addr) (cdv ct : Value) (us : List Value), us.length = ps.length → bindArgs (PySem.W.fnOf m qual params body scope .none kV doc pm an cdv ct) ⟨us, []⟩ = pure (ps.zip us)) (len : ∀ vs H Q E, sp vs H Q E → vs.length = ps.length)
    (inside : ∀ (cdv : Value) (A : Around) (outer : List Env) (s : Shared) (H : Hp) (vs : List V) (Q : VK) (E : XK), Room k (A.deeper (envOfC qual scope s.heap.objs.size f cdv)) → sp vs H Q E →
      ∃ t, PSs (cxOf (L2N.CX P w) P w K mg base N qual scope f cdv A outer s H E) body t ∧ t { nx := fun _ H' => Q .non H', rt := Q } (L2.start N vs) H) : MetN P w K mg base (k + 1) C m sp :=
  ⟨f, fd, ps, c, me, F.ok S len inside, F.bindsN b⟩
/-- o.m(..), own errors taken on -/
def tMethN (C : Addr) (m : Str) (sp : Sp) (E : L2.St → XK) (ta : TE) (t : TA) : TE := fun σ H Q => ta σ H fun x H1 => ∃ a dx fs, x = .ref a ∧ H1 a = some (.ins C dx fs) ∧ fs.lookup m = none ∧
  t σ H1 fun vs H2 => sp (x :: vs) H2 Q (E σ)
theorem pe_mtN {X : Cx} {j : Nat} {o e : Expr} {es : List Expr} {ta : TE} {t : TA} {apos pos : Pos} {W : WX} {pl : Sem Bool} (c : MetN X.prog X.w X.K X.mg X.base k C m sp) (hr : Room j X.A) (hk : k ≤ j) (tk : L2N.Takes X W) (he : PE X o ta) (ha : PA X (e :: es) t)
    (hst : starEach (e :: es) X.env = (false, eval e X.env) :: starEach es X.env := by rfl) (hpl : (backTo pos (starEach es X.env)).any (·.1) = false := by rfl)
    (ht : eval (.Call (.Attribute o m apos) (e :: es) [] pos) X.env = (do
      let ov ← eval o X.env
      standAt apos.atName
      let (f, first) ← holding [ov] (getMethod ov m pl)
      callWith pos f first (backTo pos (starEach (e :: es) X.env)) (backToKw pos (keywordEach [] X.env))) := by rfl) :
    PE X (.Call (.Attribute o m apos) (e :: es) [] pos) (tMethN C m sp (WE W) ta t) := by
  obtain ⟨f, fd, ps, hc, hm, F, b⟩ := c.ex
  refine ⟨fun pins s σ H Q I h => ?_⟩
  refine PySem.W.methodCall_KW (pl := pl) (thn (he.run pins s σ H _ I h) fun u s1 ⟨x, H1, I1, rx, a, dx, fs, ex, ea, l, q⟩ => ?_) ht
  subst ex
  obtain rfl : u = Value.ref a := rx
  refine getmeth_ok I1 ea hc hm l ?_
  refine PySem.W.callWith_K (first := [.ref a]) (h₀ := X.base) I.ok.mod.kin hm.kp (thn (ha.run pos pins s1 σ H1 _ I1 q) fun us s2 ⟨vs, H2, I2, r, q2⟩ => ⟨I2.kIn, ?_⟩) hst hpl
  exact run_fnS (us := .ref a :: us) (vs := .ref a :: vs) F (hr.mono hk) b (L2N.passAt tk σ) I2 (.cons rfl r) q2
end
/-! own exceptions over any base -/
/-- the class at C is an own exception's over B -/
structure OexX (K : PySem.W.Frag) (C : Addr) (B newId initId : String) (bmB : List Value) : Prop where
  F : ExcBaseFacts B newId initId bmB
  cls : ∃ nm q N bs sn sub ab col dd k0 k1 k2 k3 k5, K.lookup C = some (excClassObj nm q C N bs bmB true sn sub ab col dd k0 k1 k2 k3 k5 newId)
  pass : ∀ self : Value, PySem.refuseLoop self "__setattr__" bmB = pure ()
  obj : bmB.contains (.type "object") = true
  sa : PySem.W.findIn K (.ref C) "__setattr__" = some (some (.builtin "object.__setattr__"))
  exC : PySem.W.subIn K (.ref C) (.type "BaseException") = some true
  tyC : PySem.W.typeIn K (.ref C) = some (.type "type")
  kC : PySem.W.keepIn K (.ref C) = true
section
open Builtin Builtin.ObjectAttr PySem.W PySem.Calls PySem.HandSPX
variable {prog : Program} {w : World} {A : Around} {E : Value → Shared → Prop} {R : Result → Shared → Prop} {hp : Heap} {g : Array GenState} {d : Drawn} {t : Nat} {os : OsState} {bm : List Value}
theorem exc_osaX {K : W.Frag} {name : Str} {tk : Tok} {v : Value} {x C : Addr} {fv : Array Value} {cd : ClassData}
    (X : K.In hp) (hx : hp.get? x = some { cls := .ref C, data := .fields fv }) (hcd : W.clsIn K C = some cd) (hm : cd.mro = .ref C :: bm) (hpass : ∀ self : Value, PySem.refuseLoop self "__setattr__" bm = pure ()) (hob0 : bm.contains (.type "object") = true) (hh : cd.hasDict = true) (ha : W.findIn K (.ref C) name = some none)
    (hq : ∀ h' tk' dx, (∀ b o, b ≠ x → hp.get? b = some o → h'.get? b = some o) → hp.objs.size ≤ dx → dx ≠ x → h'.get? x = some { cls := .ref C, dict := some dx, data := .fields fv } →
      h'.Ns1 dx (fun y => if y = name then some v else none) → R (.ok (.ret .none)) ⟨h', g, d, tk', os⟩) :
    codeAny (model prog w) A (.call (.builtin "object.__setattr__") ⟨[.ref x, .str name tk, v], []⟩) R ⟨hp, g, d, t, os⟩ := by
  have I : W.InstAt hp x { cls := .ref C, data := .fields fv } C none := ⟨hx, rfl, rfl, trivial⟩
  have SF := F.store_object
  have ne : cd.mro.isEmpty = false := by rw [hm]; rfl
  have hob : cd.mro.contains (.type "object") = true := by rw [hm, List.contains_cons, hob0, Bool.or_true]
  have hxs : x ≠ hp.objs.size := Nat.ne_of_lt (Heap.lt_size hx)
  have sub : W.Looks (model prog w) hp (isInstance (.ref x) (.type "object")) true := I.type.andThen (W.looks_mroIn X (by unfold W.mroIn; rw [hcd, Option.bind_some, if_neg (by rw [ne]; decide), hob]))
  refine codeAny_call_builtin SF.slot.plain SF.entry (@W.check_slot (model prog w) _ _ ⟨hp, g, d, t, os⟩ "object.__setattr__" "object" "__setattr__" (.ref x) [.str name tk, v] [] _ SF.kind SF.split sub (SF.args (.ref x) (.str name tk) v) ?_)
  have hmr : W.Looks (model prog w) hp (mroOf (.ref C)) cd.mro := (W.looks_clsIn X hcd).andThen .now
  have L3 : W.Looks (model prog w) hp (storeTaker? none) none := .now
  have hcls : W.Looks (model prog w) hp (classData C) cd := W.looks_clsIn X hcd
  rw [W.osa_eq, refuse_eq]
  refine wpAny_bind (wpAny_bind (I.type.at (wpAny_bind (hmr.at ?_))))
  rw [hm, refuseLoop_ref, hpass]
  refine wpAny_pure (wpAny_bind (I.type.at (wpAny_bind ((W.looks_findIn X ha).at (wpAny_bind (L3.at ?_))))))
  show wpAny _ _ (storeInOwnDict (.ref x) (.ref C) (.str name tk) name v false) _ _ _
  obtain ⟨nm, bs, mro, ns, qn, hd, sn, sb, ab, col, del⟩ := cd
  dsimp only at hh
  subst hh
  unfold storeInOwnDict ownDictForStores
  repeat (first | with_reducible refine store_in_new ?_ ?_ | with_reducible refine wpAny_loadPart_at hx ?_ | with_reducible refine hcls.at ?_ | wp_step)
  · exact ⟨_, #[], _, (Heap.get?_update_ne _ _ _ _ hxs.symm).trans (Heap.get?_push_at rfl rfl), rfl, fun e he => absurd he (by simp), fun _ => rfl⟩
  · intro h' tk' hn' hs
    have hx₁ : (hp.push { cls := .type "dict", data := .dict #[] }).get? x = some { cls := .ref C, data := .fields fv } := Heap.get?_push_of_some _ hx
    refine hq h' tk' hp.objs.size (fun b o hb ho => ?_) (Nat.le_refl _) hxs.symm ?_ hn'
    · exact (hs.2 b (Nat.ne_of_lt (Heap.lt_size ho))).trans ((Heap.get?_update_ne _ _ _ _ hb).trans (Heap.get?_push_of_some _ ho))
    · exact (hs.2 x hxs).trans (Heap.get?_update_self _ hx₁ rfl)
end
section
variable {X : Cx} {pins : List (Addr × Obj)} {σ : L2.St} {H : Hp} {s : Shared} {a C dx : Addr} {f : Str} {y : V} {u : Value} {fs : List (Str × V)} {Q : Unit → Shared → Prop} {E : Value → Shared → Prop} {A : Around} {B newId initId : String} {bmB : List Value}
/-- self.f = y, the first one -/
theorem ostX_new (T : OexX X.K C B newId initId bmB) (I : L2.Inv X pins σ H s) (e : H a = some (exo a C none)) (hno : PySem.W.findIn X.K (.ref C) f = some none) (ry : RelV y u)
    (h : ∀ dx s', H dx = none → dx ≠ a → L2.Inv X pins σ (upd (upd H dx (exd dx [(f, y)])) a (exo a C (some dx))) s' → Q () s') : wpAny (model X.prog X.w) A (setAttr (.ref a) f u) Q E s := by
  obtain ⟨nm, q, N, bs, sn, sub, ab, col, dd, k0, k1, k2, k3, k5, hC⟩ := T.cls
  have hcl : PySem.W.clsIn X.K C = some { name := nm, bases := bs, mro := .ref C :: bmB, ns := N, qualname := q, hasDict := true, slotNames := sn, subclasses := sub, abstract := ab, collection := col, hasDel := false } := by unfold PySem.W.clsIn; rw [hC] <;> rfl
  obtain ⟨t1, ho⟩ := exo_at I.hok e
  obtain ⟨hp, g, d, t, os⟩ := s
  refine PySem.W.set_plain I.kIn (ox := { cls := .ref C, dict := none, data := .fields #[.ref t1, .none, .none, .none, .bool false, .none] }) (od := none) ⟨ho, rfl, rfl, trivial⟩ T.sa ?_
  refine exc_osaX I.kIn ho hcl rfl T.pass T.obj rfl hno (fun h' tk' dx k dn dne hx hn => ?_)
  have hnd : H dx = none := I.hok.fresh dn
  have nd : ∀ {b : Addr} {o : Obj}, hp.get? b = some o → b ≠ dx := fun {b o} q => Nat.ne_of_lt (Nat.lt_of_lt_of_le (Heap.lt_size q) dn)
  have na : ∀ {b : Addr}, H b = none → b ≠ a := fun {b} n z => by
    rw [z, e] at n
    cases n
  have Un1 : Un X.fs [] H (upd (upd H dx (exd dx [(f, y)])) a (exo a C (some dx))) hp h' := {
    keep := fun b o q n _ _ => k b o (na n) q
    slot := fun b o q n _ _ => ⟨o.slots, k b o (na n) q⟩
    free := fun b o q n _ => by rw [upd_ne (na n), upd_ne (nd q)]; exact n
    there := fun b o q _ => by
      by_cases hb : b = a
      · exact ⟨_, by rw [hb]; exact hx⟩
      · exact ⟨o, k b o hb q⟩
    tups := fun b xs q => by rw [upd_ne (at_ne e q exo_tup), upd_ne (ne_of_none q hnd)]; exact q
    frzs := fun b o v q => by rw [upd_ne (at_ne e q exo_frz), upd_ne (ne_of_none q hnd)]; exact q
    tbls := fun b ps q => ⟨#[], by rw [upd_ne (at_ne e q exo_tbl), upd_ne (ne_of_none q hnd), q]; simp⟩ }
  refine h dx _ hnd dne (I.un (t' := tk') Un1 fun b o q => ?_)
  by_cases hb : b = a
  · subst hb
    rw [upd_same] at q
    cases q
    exact exo_ok hx
  · rw [upd_ne hb] at q
    by_cases hd : b = dx
    · subst hd
      rw [upd_same] at q
      cases q
      exact exd_ok hn (relO_put (fs := []) ry fun g => True.intro)
    · rw [upd_ne hd] at q
      exact (I.hok b o q).stay (fun c v hc z => k c v (by
          rcases hc with hc | hc
          · rw [hc]
            exact hb
          · exact at_ne e hc exo_own) z)
        (fun c hc => by rw [upd_ne (at_ne e hc exo_own), upd_ne (ne_of_none hc hnd)]; exact hc) (fun c xs hc => by rw [upd_ne (at_ne e hc exo_tup), upd_ne (ne_of_none hc hnd)]; exact hc)
/-- self.f = e, the only field -/
def tOstX (K : PySem.W.Frag) (B newId initId : String) (bmB : List Value) (f : Str) (to te : TE) : TS := fun D σ H => te σ H fun y H1 => to σ H1 fun x H2 => ∃ a C : Addr, x = .ref a ∧ OexX K C B newId initId bmB ∧ PySem.W.findIn K (.ref C) f = some none ∧
  (H2 a = some (exo a C none) ∧ ∀ dx, H2 dx = none → dx ≠ a → D.nx σ (upd (upd H2 dx (exd dx [(f, y)])) a (exo a C (some dx))))
theorem ps_ostX {o e : Expr} {p' pos : Pos} {to te : TE} (ho : PE X o to) (he : PE X e te) (hs : swapsWith e (some (.Attribute o f p')) pos.line X.env = pure false := by rfl) : PS X (.Assign [.Attribute o f p'] e pos) (tOstX X.K B newId initId bmB f to te) := by
  refine ⟨fun pins s σ H D I h => ?_⟩
  refine plainObj_wpAny_Assign_Attribute (thn (he.run pins s σ H _ I h) fun v s1 ⟨y, H1, I1, r1, q1⟩ => thn (ho.run pins s1 σ H1 _ I1 q1) fun u s2 ⟨x, H2, I2, r2, a, C, ex, T, hno, ea, q⟩ => ?_) hs
  subst ex
  obtain rfl : u = Value.ref a := r2
  exact ostX_new T I2 ea hno r1 fun dx s' n ne J => ⟨σ, _, J, q dx n ne⟩
theorem pmk_oexX {CX : CXT} {x : Str} {C fI : Addr} {k : Nat} {fd : FuncData} {ps : List Str} {sp : Sp} {e : Expr} {es : List Expr} {ta : TA} {p pos : Pos} (T : OexX X.K C B newId initId bmB) (iC : PySem.W.findIn X.K (.ref C) "__init__" = some (some (.ref fI)))
    (tI : PySem.W.typeIn X.K (.ref fI) = some (.type "function")) (F1 : FnOk X.prog X.w X.K X.mg X.base CX k fI fd ps sp) (room : Room (k + 1) X.A) (hb : Binds X.K fd ps []) (hx : Passes CX X (fun _ _ _ => False)) (hg : Gl X x) (hm : X.mg x = some (.ref C)) (ha : PA X (e :: es) ta)
    (hdb : (x == ("__debug__" : Str)) = false := by decide) (he : starEach (e :: es) X.env = (false, eval e X.env) :: starEach es X.env := by rfl) (hpl : (backTo pos (starEach es X.env)).any (·.1) = false := by rfl) :
    L2N.PMk X (.Call (.Name x p) (e :: es) [] pos) (tMkO C sp [] ta) := by
  intro pins s σ H Q I h
  obtain ⟨nm, q, N, bs, sn, sub, ab, col, dd, k0, k1, k2, k3, k5, hC⟩ := T.cls
  refine wpAny_Call_Name_kw (ld_glob I hg hm ?_ hdb)
  refine PySem.W.callWith_K (h₀ := X.base) I.ok.mod.kin T.kC (thn (ha.run pos pins s σ H _ I h) ?_) he hpl
  rintro us ⟨hp, g, dr, tk, os⟩ ⟨vs, H1, I1, r1, few, wish⟩
  refine ⟨I1.kIn, ?_⟩
  show wpAny _ _ (call (.ref C) us) _ _ _
  generalize ea : hp.objs.size + 1 = a at *
  have up : hp.objs.size ≤ a := by rw [← ea]; exact Nat.le_succ _
  have prom := wish a (I1.hok.fresh up)
  rw [List.append_nil] at prom
  have grow : ∀ b o, hp.get? b = some o → ((hp.push (PySem.W.kdv_tup us)).push (PySem.HandSPX.excO C hp.objs.size)).get? b = some o := fun b o z => Heap.get?_push_of_some _ (Heap.get?_push_of_some _ z)
  have here : ((hp.push (PySem.W.kdv_tup us)).push (PySem.HandSPX.excO C hp.objs.size)).get? a = some (PySem.HandSPX.excO C hp.objs.size) := by rw [← ea]; heap_get
  have I2 := I1.laid (t' := tk) (a := a) (o := exo a C none) (h' := (hp.push (PySem.W.kdv_tup us)).push (PySem.HandSPX.excO C hp.objs.size)) grow up (exo_ok here)
  have r2 : Vals (V.ref a :: vs) (Value.ref a :: us) := .cons rfl r1
  have number : (Value.ref a :: us ++ []).length = ps.length := by rw [List.append_nil, ← r2.length]; exact F1.len _ _ _ _ prom
  have bound := hb ⟨(hp.push (PySem.W.kdv_tup us)).push (PySem.HandSPX.excO C hp.objs.size), g, dr, tk, os⟩ (Value.ref a :: us) I2.kIn number
  rw [List.append_nil] at bound
  have short : us.length ≤ sizeLine := by rw [← Paired.length r1, sizeLine_eq]; omega
  subst ea
  refine wpAny_call (PySem.HandSPX.call_own T.F (fun Y => rfl) (I1.kIn _ _ hC) (PySem.W.looks_findIn I1.kIn iC) (fun self => PySem.W.bind_fn I1.kIn self tI) short
    (codeAny_mono (F1.run _ X.stack _ _ ⟨Value.ref (hp.objs.size + 1) :: us, []⟩ (Value.ref (hp.objs.size + 1) :: us) _ _ (fun _ _ _ => False) (room.make C us []) (I2.env0.make C us []) bound r2 prom) ?_))
  rintro (er | _ | _ | _ | u) s' out
  case error => exact hx pins σ _ _ er s' I2 out
  case ok.ret =>
    obtain ⟨v, H2, os2, bare2, un2, hok2, rv, rfl, d, fs, ea, ed, hd1, q2⟩ := out
    obtain ⟨h2, g2, d2, t2, os'⟩ := s'
    obtain ⟨t0, G, J, sub2, gone, obj, free⟩ := mk_end0 (d2 := d2) (t2 := t2) I1 up grow un2 hok2 os2 bare2 ea ed hd1
    refine ⟨rv, hp.objs.size + 1, _, _, ⟨G, g2, d2, t2, os'⟩, _, .ref C, some d, rfl, J, sub2, gone, obj, ⟨rfl, rfl, fun vs hv => ?_⟩, rfl, rfl, free, rfl, bare2, raises_own T.exC T.tyC, q2⟩
    cases hv
    rfl
  all_goals exact False.elim out
end
end Lay

set_option Elab.async false
set_option linter.all false
set_option maxRecDepth 100000
set_option maxHeartbeats 4000000
/-! LayQ: [k for k in d]; fields that are set -/
namespace Lay
open PySem PySem.Spec PyProof.Rows L2
theorem lc_keys {td : TE} {i : Nat} {σ : L2.St} {H : Hp} {Q : VK} {d : Addr} {o : Obj} {kvs : List (Key × V)} (h : ∀ R : VK, R (.ref d) H → td σ H R) (hd : H d = some (.frz o (.dK kvs))) (hl : kvs.length ≤ sizeLine)
    (hw : ∀ x, wipe ((wipe σ [i]).set i (some x)) [i] = wipe σ [i]) (hi : ∀ x : V, ((wipe σ [i]).set i (some x))[i]? = some (some x)) (k : ∀ D, H D = none → Q (.ref D) (upd H D (.lst (kvs.map fun kv => kV kv.1)))) :
    tLc (iKeys td) (gName i) tYes (tVar i) [i] σ H Q := by
  refine h _ ⟨d, o, rfl, .inl ⟨kvs, hd, fun D hD => ?_⟩⟩
  refine lc_it walk_keys (fun j H' => H' = upd H D (.lst ((kvs.take j).map fun kv => kV kv.1))) rfl ?_ ?_ ?_
  · rintro j H' hj rfl
    rw [upd_ne (ne_of_none hd hD)]
    exact hd
  · rintro j x H1 H2 hj rfl ⟨rfl, kk, v, hk, rfl⟩
    refine ⟨hw _, ?_⟩
    unfold tYes
    simp only [if_true]
    refine ⟨_, hi _, _, upd_same, ?_, ?_⟩
    · rw [List.length_map, List.length_take]
      omega
    · rw [upd_upd]
      obtain ⟨h1, e⟩ := List.getElem?_eq_some_iff.mp hk
      rw [List.take_succ_eq_append_getElem h1, e, List.map_append]
      rfl
  · rintro H' rfl
    rw [List.take_length]
    exact k D hD
end Lay
namespace Lay
open PySem PySem.Spec PyProof.Rows L2
/-- [.. for v in range(n)] -/
theorem lc_range {ta : TA} {te : TE} {v n : Nat} {σ : L2.St} {H H1 : Hp} {Q : VK} (hn : n < 2 ^ 62) (h : ∀ R : List V → Hp → Prop, R [.int (n : Int)] H1 → ta σ H R)
    (hw : ∀ x, wipe ((wipe σ [v]).set v (some x)) [v] = wipe σ [v])
    (k : ∀ D, H1 D = none → ∃ Pv : Nat → Hp → Prop, Pv 0 (upd H1 D (.lst [])) ∧
      (∀ i H', i < n → Pv i H' → te ((wipe σ [v]).set v (some (.int (i : Int)))) H' fun y H4 => ∃ acc, H4 D = some (.lst acc) ∧ acc.length < sizeLine ∧ Pv (i + 1) (upd H4 D (.lst (acc ++ [y])))) ∧ ∀ H', Pv n H' → Q (.ref D) H') :
    tLc (iRng1 ta) (gName v) tYes te [v] σ H Q := by
  refine h _ ⟨(n : Int), rfl, by omega, by omega, fun D hD => ?_⟩
  obtain ⟨Pv, h0, hs, hd⟩ := k D hD
  rw [Int.toNat_natCast]
  refine lc_it (walk_range (lo := 0) (n := n)) Pv h0 (fun _ _ _ _ => trivial) ?_ hd
  rintro i x H' H2 hi hP ⟨rfl, e⟩
  have ex : x = .int (i : Int) := by
    simpa using e
  subst ex
  refine ⟨hw _, ?_⟩
  unfold tYes
  simp only [if_true]
  exact hs i _ hi hP
end Lay

set_option Elab.async false
set_option linter.all false
set_option maxRecDepth 100000
set_option maxHeartbeats 4000000
/-! LayR: iter(t) of a tuple; len(o) and list(o) of an own class with __len__ and an __iter__ that gives a tuple's iterator -/
namespace Lay
open PySem PySem.Spec PyProof.Rows L2
abbrev tiObj (t : Addr) (i : Nat) : Obj := { cls := .type "tuple_iterator", data := .fields #[.ref t, .int i 0] }
/-- at it: an iterator over the tuple at t that has given i of its items -/
def ItT (t it : Addr) (i : Nat) : HO := .ext fun h => h.IsTupleIter it t i
theorem itT_ok {P : Program} {w : World} {H : Hp} {h : Heap} {t it : Addr} {i : Nat} (e : h.IsTupleIter it t i) : ObjOk P w H h it (ItT t it i) := ⟨e, ⟨_, e.choose_spec.1⟩, fun h1 h2 q k => let ⟨o, ho, r⟩ := q; ⟨o, k _ ho, r⟩⟩
section
variable {X : Cx} {pins : List (Addr × Obj)} {σ : L2.St} {H : Hp} {s : Shared}
theorem itT_get {t it : Addr} {i : Nat} (I : L2.Inv X pins σ H s) (e : H it = some (ItT t it i)) : s.heap.IsTupleIter it t i := (I.hok it _ e).1
/-- iter(t), t a tuple -/
def rIterT (K : PySem.W.Frag) : List V → Hp → VK → Prop := fun xs H Q => ∃ (t : Addr) (zs : List V), xs = [.ref t] ∧ SqT K H t zs ∧ ∀ it, H it = none → Q (.ref it) (upd H it (ItT t it 0))
theorem iter_tuple {prog : Program} {w : World} {A : Around} {E : Value → Shared → Prop} {t : Addr} {items : Array Value} {Q : Value → Shared → Prop} (hl : s.heap.IsTuple t items) (h : Q (.ref s.heap.objs.size) { s with heap := s.heap.push (tiObj t 0) }) : wpAny (model prog w) A (call (.builtin "iter") [.ref t]) Q E s := by
  refine Calls.call_function_entry (by decide +kernel) (by decide +kernel) PySem.W.kdk_entry_iter (PySem.W.kdk_args_iter _) ?_
  unfold Builtin.«iter»
  refine wpAny_bind (m := someArgs "iter" 1 2 _) (wpAny_of_eq (a := [Value.ref t]) (by first | rfl | kernel_rfl!) ?_)
  show wpAny _ _ (pyIter (.ref t) >>= _) _ _ _
  refine wpAny_bind (wpAny_pyIter_tuple hl ?_)
  exact wpAny_pure ⟨_, rfl, h⟩
theorem call_iterT : CallR X (.builtin "iter") (rIterT X.K) := by
  intro pins s σ H xs us Q I r h
  obtain ⟨l, zs, rfl, hq, q⟩ := h
  obtain rfl := Vals.ref1 r
  obtain ⟨its, rv, pl, hz⟩ := I.tuple hq
  refine iter_tuple pl ?_
  exact ⟨.ref s.heap.objs.size, _, I.laid (t' := s.toks) (fun b u e => Heap.get?_push_of_some _ e) (Nat.le_refl _) (itT_ok ⟨_, Heap.get?_push_size _ rfl, rfl, rfl⟩), rfl, q _ (I.hok.fresh (Nat.le_refl _))⟩
end
end Lay

set_option Elab.async false
set_option linter.all false
set_option maxRecDepth 100000
set_option maxHeartbeats 4000000
/-! LayS: len(o) by an own __len__ -/
namespace Lay
open PySem PySem.Spec PyProof.Rows L2
/-- the class has an own __len__ and an own __iter__ -/
structure ItO2 (K : PySem.W.Frag) (C fi fl : Addr) : Prop where
  it : PySem.W.findIn K (.ref C) "__iter__" = some (some (.ref fi))
  itF : PySem.W.isFn K (.ref fi) = true
  ln : PySem.W.findIn K (.ref C) "__len__" = some (some (.ref fl))
  lnF : PySem.W.isFn K (.ref fl) = true
/-- an own __len__'s promise -/
def LenP (sp : Sp) (a : Addr) (n : Nat) (H : Hp) : Prop := sp [.ref a] H (fun v H' => v = .int (n : Int) ∧ H' = H) C8.E0
section
variable {X : Cx} {pins : List (Addr × Obj)} {σ : L2.St} {H : Hp} {s : Shared} {C fi fl a : Addr} {fdL : FuncData} {psL : List Str} {spL : Sp} {k n : Nat} {A : Around} {dx : Addr} {fs : List (Str × V)}
theorem len_own {Q : Value → Shared → Prop} {E : Value → Shared → Prop} (sb : L2.Sub X k A.in1) (hc : ItO2 X.K C fi fl) (FL : FnOk X.prog X.w X.K X.mg X.base C8.CX0 k fl fdL psL spL) (bL : Binds X.K fdL psL []) (I : L2.Inv X pins σ H s) (ha : H a = some (.ins C dx fs)) (hn : n ≤ 16777216)
    (hsp : LenP spL a n H) (q : ∀ t s', L2.Inv X pins σ H s' → Q (.int (n : Int) t) s') : wpAny (model X.prog X.w) A (call (.builtin "len") [.ref a]) Q E s := by
  obtain ⟨mA, J, _⟩ := ins_get I.hok ha
  obtain ⟨od, J, _⟩ := J.look
  refine Calls.call_function_entry PySem.kind_len PySem.plain_len PySem.entry_len (PySem.args_len1 _) ?_
  unfold Builtin.«len»
  refine wpAny_bind (m := oneArg "len" _) (wpAny_pure ?_)
  refine wpAny_bind (PySem.W.special_fn (name := "__len__") (args := []) I.kIn J hc.ln (beq_iff_eq.mp hc.lnF) ?_)
  have e0 : Env0 X.prog X.w X.K X.mg X.base A.in1 X.stack s H := by
    have e := I.env0
    exact ⟨by rw [sb.fr]; exact e.frames, e.mod, e.bs, e.bsz, e.funs, e.frf, e.hok, e.bare⟩
  have hl := FL.len _ _ _ _ hsp
  have r2 : Vals [V.ref a] [Value.ref a] := .cons rfl .nil
  refine wpAny_call (codeAny_mono (FL.run A.in1 X.stack s H ⟨[.ref a], []⟩ [.ref a] [.ref a] _ C8.E0 sb.room e0 (by
    have := bL s [.ref a] I.kIn (by simpa using hl)
    simpa using this) r2 hsp) fun r s' hq => ?_)
  cases r with
  | error e => exact False.elim hq
  | ok fl2 =>
    cases fl2 with
    | next => exact False.elim hq
    | brk => exact False.elim hq
    | cont => exact False.elim hq
    | ret u =>
      obtain ⟨v, H', I', rv, ev, eH⟩ := I.after hq
      subst ev
      rw [eH] at I'
      obtain ⟨t, rfl⟩ := rv
      refine wpAny_bind (wpAny_holding (wpAny_pure ?_))
      refine wpAny_bind (wpAny_letGo ?_)
      show wpAny _ _ (if ((n : Nat) : Int) < 0 then _ else _) _ _ _
      rw [if_neg (by omega)]
      show wpAny _ _ (if ((n : Nat) : Int) ≥ 2 ^ 63 then _ else _) _ _ _
      rw [if_neg (by omega)]
      exact wpAny_bind (wpAny_mkInt (wpAny_pure ⟨_, rfl, q _ _ (I'.tok _)⟩))
/-- the length that list(o) asks for -/
theorem own_hint2 {Q : Bool → Shared → Prop} {E : Value → Shared → Prop} (sb : L2.Sub X k A.in1) (hc : ItO2 X.K C fi fl) (FL : FnOk X.prog X.w X.K X.mg X.base C8.CX0 k fl fdL psL spL) (bL : Binds X.K fdL psL []) (I : L2.Inv X pins σ H s) (ha : H a = some (.ins C dx fs)) (hn : n ≤ 1000000)
    (hsp : LenP spL a n H) (q : ∀ b s', L2.Inv X pins σ H s' → Q b s') : wpAny (model X.prog X.w) A (Builtin.List.listLengthHint (.ref a)) Q E s := by
  obtain ⟨mA, J, _⟩ := ins_get I.hok ha
  obtain ⟨od, J, _⟩ := J.look
  unfold Builtin.List.listLengthHint
  refine wpAny_bind (wpAny_bind (J.type.here ((PySem.W.looks_findIn I.kIn hc.ln).here ?_)))
  refine PySem.W.KFB.if_not rfl ?_
  refine PySem.W.KFB.if_so rfl ?_
  refine wpAny_bind (wpAny_rule ?_)
  refine wpAny_bind (wpAny_attempt (len_own sb hc FL bL I ha (by omega) hsp fun t s' I' => ?_))
  refine wpAny_bind (m := asInt? (.int (n : Int) t)) (wpAny_of_eq (a := some (n : Int)) rfl ?_)
  have e : Builtin.List.listTooLong ((n : Int)).toNat = false := by
    unfold Builtin.List.listTooLong
    rw [Int.toNat_natCast, sizeLine_eq]
    exact decide_eq_false (by omega)
  refine PySem.W.KFB.if_not e ?_
  exact wpAny_pure (q _ _ I')
end
end Lay

set_option Elab.async false
set_option linter.all false
set_option maxRecDepth 100000
set_option maxHeartbeats 4000000
/-! LayT: list(o), o of an own class whose __iter__ gives an iterator over a tuple -/
namespace Lay
open PySem PySem.Spec PyProof.Rows L2
/-- at it: some object -/
def AnyO (it : Addr) : HO := .ext fun h => ∃ o, h.get? it = some o
theorem anyO_ok {P : Program} {w : World} {H : Hp} {h : Heap} {it : Addr} (e : ∃ o, h.get? it = some o) : ObjOk P w H h it (AnyO it) := ⟨e, e, fun h1 h2 ⟨o, q⟩ k => ⟨o, k _ q⟩⟩
section
variable {prog : Program} {w : World} {A : Around} {E : Value → Shared → Prop} {s : Shared}
theorem tup_end {it t : Addr} {i : Nat} {items : Array Value} {Q : Option Value → Shared → Prop} (hh : A.handled = none) (hit : s.heap.IsTupleIter it t i) (ht : s.heap.IsTuple t items) (hx : items[i]? = none)
    (hQ : ∀ h', Heap.ExtBut it s.heap h' → (∃ o, h'.get? it = some o) → Q none { s with heap := h' }) : wpAny (model prog w) A (pyNext (.ref it)) Q E s := by
  obtain ⟨o, ho, hc, hd⟩ := id hit
  obtain ⟨ol, hol, _, nl, hdl⟩ := ht
  unfold pyNext
  refine wpAny_bind (wpAny_attempt (wpAny_callSpecial?_slot (name := Str.ofString "__next__") hit.typeIs F.slot_tuple_iterator_next
    (wpAny_call_entry F.slot_tuple_iterator_next hit.typeIs F.entry_tuple_iterator_next ?_ (F.args_tuple_iterator_next_1 _))))
  show wpAny _ _ (field (.ref it) 0 >>= _) _ _ s
  refine wpAny_bind (wpAny_field ho hd (x := .ref t) rfl ?_)
  show wpAny _ _ (if (Value.ref t == Value.none) = true then _ else _) _ _ s
  rw [if_neg (show ¬ ((Value.ref t == Value.none) = true) from Bool.false_ne_true)]
  show wpAny _ _ (field (.ref it) 1 >>= _) _ _ s
  refine wpAny_bind (wpAny_field ho hd (x := .int i 0) rfl ?_)
  show wpAny _ _ (seqItems? (.ref t) >>= _) _ _ s
  refine wpAny_bind (wpAny_seqItems hol hdl ?_)
  simp only [Int.toNat_natCast, hx]
  refine wpAny_bind (wpAny_rule (wpAny_bind (wpAny_setField ho hd (by simp) ?_)))
  show wpAny _ _ (newExc (.type "StopIteration") [] >>= _) _ _ _
  refine wpAny_bind ?_
  simp only [newExc, newTuple]
  refine wpAny_bind (wpAny_newObj_type ?_ (by size_fits))
  refine wpAny_bind (m := firstArgMember _ _) (wpAny_of_eq (a := Value.none) (by first | rfl | (simp only [firstArgMember]; rfl)) ?_)
  refine wpAny_newObj_type ?_ (by size_fits)
  simp only [raiseNew]
  refine wpAny_bind (wpAny_handled ?_)
  first | rw [show A.in1.handled = none from hh] | rw [hh]
  refine wpAny_bind (wpAny_pure (wpAny_throw ?_))
  refine wpAny_bind (wpAny_isInstance (T := "StopIteration") (b := true) ⟨_, Heap.get?_push_size _ rfl, rfl⟩ isSubtype_stop ?_)
  exact wpAny_pure (hQ _ (((Heap.SameBut.update ..).extBut.push _).push _) ⟨_, Heap.get?_push_of_some _ (Heap.get?_push_of_some _ (Heap.get?_update_self _ ho (Obj.isFreed_of_fields (Obj.data_mapFields hd _))))⟩)
end
theorem sqT_upd {K : PySem.W.Frag} {H : Hp} {t b : Addr} {o : HO} {zs : List V} (h : SqT K H t zs) (ne : t ≠ b) : SqT K (upd H b o) t zs := by
  unfold SqT Rd at *
  rw [upd_ne ne]
  exact h
section
variable {X : Cx} {pins : List (Addr × Obj)} {σ : L2.St} {H : Hp} {s : Shared} {C fi fl a q : Addr} {fdL fdI : FuncData} {psL psI : List Str} {spL spI : Sp} {k n : Nat} {A1 : Around} {dx : Addr} {fs : List (Str × V)} {Rs : Result → Shared → Prop}
theorem own_loop2 {t it : Addr} {zs : List V} (hh : A1.handled = none) (hR : ∀ H' s', L2.Inv X pins σ H' s' → (∃ H0, H' = upd (upd H0 it (AnyO it)) q (.lst zs) ∧ (∀ b u, b ≠ it → b ≠ q → H b = some u → H0 b = some u)) → Rs (.ok (.ret .none)) s') (hz : zs.length < sizeLine) (nqi : q ≠ it) :
    ∀ (m i : Nat) (H' : Hp) (s : Shared), zs.length - i = m → i ≤ zs.length → L2.Inv X pins σ H' s → H' it = some (ItT t it i) → H' q = some (.lst (zs.take i)) → SqT X.K H' t zs → t ≠ it → t ≠ q → (∀ b u, b ≠ it → b ≠ q → H b = some u → H' b = some u) →
      codeAny (model X.prog X.w) A1 (.builtin "list.extend.loop" ⟨[.ref q, .ref it, .none], []⟩) Rs s := by
  intro m
  induction m with
  | zero =>
    intro i H' s em hi I hit hq ht nti ntq keep
    obtain rfl : i = zs.length := by omega
    refine codeAny_builtin PySem.F.entry_extend_loop ?_
    rw [Around.under_plainId PySem.F.plain_extend_loop _]
    show wpAny _ A1.in1 (pyNext (.ref it) >>= _) _ _ s
    obtain ⟨its, rv, pl, hz'⟩ := I.tuple ht
    have hlen := rv.length
    refine wpAny_bind (tup_end hh (itT_get I hit) pl (by simp; omega) fun h' eb ex => ?_)
    have I2 := I.write (t' := s.toks) (x := it) (e := it) (o := AnyO it) (by rw [hit]; exact True.intro) (.inl rfl) (fun b u hb e => eb b u hb e) ex (anyO_ok ex)
    refine wpAny_pure (hR _ _ I2 ⟨H', ?_, keep⟩)
    funext b
    by_cases hb : b = q
    · rw [hb, upd_same, upd_ne nqi, hq, List.take_length]
    · rw [upd_ne hb]
  | succ m ih =>
    intro i H' s em hi I hit hq ht nti ntq keep
    have lt : i < zs.length := by omega
    refine codeAny_builtin PySem.F.entry_extend_loop ?_
    rw [Around.under_plainId PySem.F.plain_extend_loop _]
    show wpAny _ A1.in1 (pyNext (.ref it) >>= _) _ _ s
    obtain ⟨its, rv, pl, hz'⟩ := I.tuple ht
    have hx : zs[i]? = some zs[i] := List.getElem?_eq_getElem lt
    obtain ⟨u, hu, ru⟩ := rv.get hx
    refine wpAny_bind (wpAny_pyNext_tuple_item (itT_get I hit) pl (x := u) (by simpa using hu) fun h' st' sb => ?_)
    have I2 := I.write (t' := s.toks) (x := it) (e := it) (o := ItT t it (i + 1)) (by rw [hit]; exact True.intro) (.inl rfl) (fun b u hb e => (sb.2 b hb).trans e) ⟨_, st'.choose_spec.1⟩ (itT_ok st')
    have hq2 : (upd H' it (ItT t it (i + 1))) q = some (.lst (zs.take i)) := by rw [upd_ne nqi]; exact hq
    show wpAny _ A1.in1 (updateSeq q (·.push u) >>= _) _ _ _
    obtain ⟨z, its2, k2, r2, hl2, e2⟩ := I2.lstM hq2
    have hl3 : its2.length = i := by
      rw [← r2.length, List.length_take]
      omega
    refine wpAny_bind (wpAny_updateSeq e2 rfl (wpAny_pure ⟨plainId_quiet PySem.F.plain_extend_loop _, ?_⟩) (by rw [List.size_toArray]; omega) (by show (its2.toArray.push u).size ≤ sizeLine + 1; rw [Array.size_push, List.size_toArray]; omega))
    refine ih (i + 1) _ _ (by omega) lt (I2.lset (its' := its2 ++ [u]) (ys := zs.take i ++ [zs[i]]) (t' := s.toks) hq2 e2 (by simp) (r2.append (.cons ru .nil)) (by rw [List.length_append, List.length_singleton]; omega)) ?_ ?_ ?_ nti ntq ?_
    · rw [upd_ne (Ne.symm nqi), upd_same]
    · rw [upd_same, List.take_succ_eq_append_getElem lt]
    · exact sqT_upd (sqT_upd ht nti) ntq
    · intro b u' n1 n2 e
      rw [upd_ne n2, upd_ne n1]
      exact keep b u' n1 n2 e
/-- list(o) -/
def rOwn2 (K : PySem.W.Frag) (C : Addr) (spI spL : Sp) : List V → Hp → VK → Prop := fun xs H Q => ∃ (a dx : Addr) (fs : List (Str × V)) (t : Addr) (zs : List V) (n : Nat), xs = [.ref a] ∧ H a = some (.ins C dx fs) ∧ SqT K H t zs ∧ zs.length ≤ 1000000 ∧ n ≤ 1000000 ∧ (∃ o, H t = some o) ∧
  ∀ q, H q = none → spI [.ref a] (upd H q (.lst [])) (fun v H' => ∃ it, v = .ref it ∧ upd H q (.lst []) it = none ∧ H' = upd (upd H q (.lst [])) it (ItT t it 0)) C8.E0 ∧
    (∀ it, upd H q (.lst []) it = none → LenP spL a n (upd (upd H q (.lst [])) it (ItT t it 0))) ∧ ∀ H', Same H H' → H' q = some (.lst zs) → Q (.ref q) H'
theorem own_extend2 {t : Addr} {zs : List V} (hh : A1.handled = none) (sb : L2.Sub X (k + 1) A1.in1) (hc : ItO2 X.K C fi fl) (FI : FnOk X.prog X.w X.K X.mg X.base C8.CX0 k fi fdI psI spI) (bI : Binds X.K fdI psI [])
    (FL : FnOk X.prog X.w X.K X.mg X.base C8.CX0 k fl fdL psL spL) (bL : Binds X.K fdL psL []) (hdone : ∀ H' s', L2.Inv X pins σ H' s' → (∀ b u, b ≠ q → H b = some u → H' b = some u) → H' q = some (.lst zs) → Rs (.ok (.ret .none)) s') (herr : ∀ e s, X.xe e s → Rs (.error e) s)
    (I : L2.Inv X pins σ H s) (ha : H a = some (.ins C dx fs)) (hq : H q = some (.lst [])) (ht : SqT X.K H t zs) (hte : ∃ o, H t = some o) (ntq : t ≠ q) (hz : zs.length ≤ 1000000) (hn : n ≤ 1000000)
    (hI : spI [.ref a] H (fun v H' => ∃ it, v = .ref it ∧ H it = none ∧ H' = upd H it (ItT t it 0)) C8.E0) (hL : ∀ it, H it = none → LenP spL a n (upd H it (ItT t it 0))) :
    wpAny (model X.prog X.w) A1.in1 (Builtin.List.listExtendWith (.ref q) (.ref a) .none)
      (fun fin s' => match fin with | .done f => Rs (.ok f) s' | .again c' => c'.quiet = true ∧ codeAny (model X.prog X.w) A1 c' Rs s') (fun e s' => Rs (.error e) s') s := by
  have hne : q ≠ a := ne_of hq ha (fun z => nomatch z)
  obtain ⟨mA, J, _⟩ := ins_get I.hok ha
  obtain ⟨od, J, _⟩ := J.look
  obtain ⟨m0, hF⟩ := I.fr
  unfold Builtin.List.listExtendWith
  refine wpAny_bind (J.type.here ?_)
  have h1 : Builtin.List.listSameRef (.ref q) (.ref a) = false := by simp [Builtin.List.listSameRef, hne]
  have h2 : (Value.ref C == Value.type "list") = false := rfl
  have h3 : (Value.ref C == Value.type "tuple") = false := rfl
  simp only [h1, h2, h3, Bool.or_false, Bool.false_eq_true, if_false]
  refine wpAny_bind (PySem.W.owit_iter hF I.ok.mod.kin J hc.it hc.itF ?_)
  have e0 : Env0 X.prog X.w X.K X.mg X.base A1.in1 X.stack s H := by
    have e := I.env0
    exact ⟨by rw [sb.fr]; exact e.frames, e.mod, e.bs, e.bsz, e.funs, e.frf, e.hok, e.bare⟩
  have hl := FI.len _ _ _ _ hI
  have r2 : Vals [V.ref a] [Value.ref a] := .cons rfl .nil
  refine wpAny_call (codeAny_mono (FI.run A1.in1 X.stack s H ⟨[.ref a], []⟩ [.ref a] [.ref a] _ C8.E0 (sb.mono (Nat.le_succ k)).room e0 (by
    have := bI s [.ref a] I.kIn (by simpa using hl)
    simpa using this) r2 hI) fun r s' hq' => ?_)
  cases r with
  | error e => exact False.elim hq'
  | ok fl2 =>
    cases fl2 with
    | next => exact False.elim hq'
    | brk => exact False.elim hq'
    | cont => exact False.elim hq'
    | ret u =>
      obtain ⟨v, H', I', rv, it, ev, nit, eH⟩ := I.after hq'
      subst ev
      rw [eH] at I'
      cases rv
      have nqi : q ≠ it := ne_of_none hq nit
      have nai : a ≠ it := ne_of_none ha nit
      obtain ⟨oT, hT⟩ := hte
      have nti : t ≠ it := ne_of_none hT nit
      have hit : (upd H it (ItT t it 0)) it = some (ItT t it 0) := upd_same
      have itr := itT_get I' hit
      unfold PySem.W.OwitIt
      refine wpAny_specialOf itr.typeIs F.slot_tuple_iterator_next.lookup ?_
      have ha2 : (upd H it (ItT t it 0)) a = some (.ins C dx fs) := by rw [upd_ne nai]; exact ha
      have hq2 : (upd H it (ItT t it 0)) q = some (.lst []) := by rw [upd_ne nqi]; exact hq
      have fin : ∀ s2, L2.Inv X pins σ (upd H it (ItT t it 0)) s2 → codeAny (model X.prog X.w) A1 (.builtin "list.extend.loop" ⟨[.ref q, .ref it, .none], []⟩) Rs s2 := fun s2 I2 =>
        own_loop2 (H := H) (zs := zs) hh (fun H2 s3 I3 ⟨H0, e, keep⟩ => hdone H2 s3 I3 (fun b u nb hb => by
          rw [e, upd_ne nb, upd_ne (ne_of_none hb nit)]
          exact keep b u (ne_of_none hb nit) nb hb) (by rw [e, upd_same])) (by rw [sizeLine_eq]; omega) nqi zs.length 0 _ s2 (by omega) (Nat.zero_le _) I2 hit (by rw [List.take_zero]; exact hq2) (sqT_upd ht nti) nti ntq
          fun b u n1 n2 hb => by rw [upd_ne n1]; exact hb
      refine wpAny_bind (wpAny_holding (own_hint2 (sb.mono (Nat.le_refl _)).in1 hc FL bL I' ha2 hn (hL it nit) fun b s2 I2 => ?_))
      obtain ⟨z, its, k3, r3, hl3, e3⟩ := I2.lstM hq2
      cases r3
      refine wpAny_ite_split (fun _ => ?_) (fun _ => wpAny_pure ⟨plainId_quiet PySem.F.plain_extend_loop _, fin _ I2⟩)
      refine wpAny_bind (wpAny_rule ?_)
      refine wpAny_bind ?_
      show wpAny _ _ (updateSeq q (·.push .none) >>= fun _ => updateSeq q (·.pop)) _ _ _
      refine wpAny_bind (wpAny_updateSeq e3 rfl ?_)
      have I3 := I2.lset (f := (·.push Value.none)) (its' := [Value.none]) (ys := [.non]) (t' := s2.toks) hq2 e3 (by simp) (.cons rfl .nil) (by rw [List.length_singleton, sizeLine_eq]; decide)
      obtain ⟨z4, its4, k4, r4, hl4, e4⟩ := I3.lstM upd_same
      obtain ⟨u4, rfl, ru4⟩ := r4.one
      refine wpAny_updateSeq e4 rfl ?_ (by show 1 ≤ sizeLine; rw [sizeLine_eq]; decide) (by show 0 ≤ sizeLine + 1; exact Nat.zero_le _)
      refine wpAny_pure ⟨plainId_quiet PySem.F.plain_extend_loop _, fin _ ?_⟩
      have I4 := I3.lset (f := (·.pop)) (its := [u4]) (its' := []) (ys := []) (t' := s2.toks) upd_same e4 (by rfl) .nil (Nat.zero_le _)
      rw [upd_upd] at I4
      have hH : upd (upd H it (ItT t it 0)) q (.lst []) = upd H it (ItT t it 0) := by
        funext b
        by_cases hb : b = q
        · rw [hb, upd_same, hq2]
        · rw [upd_ne hb]
      rw [hH] at I4
      exact I4
theorem call_listOwn2 (hcm : X.calm = true) (hc : ItO2 X.K C fi fl) (FI : FnOk X.prog X.w X.K X.mg X.base C8.CX0 k fi fdI psI spI) (bI : Binds X.K fdI psI []) (FL : FnOk X.prog X.w X.K X.mg X.base C8.CX0 k fl fdL psL spL) (bL : Binds X.K fdL psL []) (hr : Room (k + 3) X.A) :
    CallR X (.type "list") (rOwn2 X.K C spI spL) := by
  intro pins s σ H xs us Q I rv h
  obtain ⟨a, dx, fs, t, zs, n, rfl, ha, ht, hz, hn, hte, hq⟩ := h
  obtain ⟨u, rfl, ru⟩ := rv.one
  cases ru
  have sb : L2.Sub X (k + 1) X.A.in1.in1 := (L2.Sub.in1 (L2.Sub.in1 (⟨hr, rfl⟩ : L2.Sub X (k + 3) X.A)))
  refine callType_codes (Q₁ := fun obj s₁ => obj = .ref s.heap.objs.size ∧ s₁ = { s with heap := s.heap.push { cls := .type "list", data := .seq #[] } }) PySem.F.called_list (PySem.F.typeCall_list_1 _) PySem.F.entry_list_init
    (code_list_new _ ⟨rfl, rfl⟩) fun obj s₁ h₁ => ?_
  obtain ⟨rfl, rfl⟩ := h₁
  have hS : (s.heap.push { cls := .type "list", data := .seq #[] }).get? s.heap.objs.size = some { cls := .type "list", data := .seq #[] } := Heap.get?_push_size _ rfl
  refine ⟨⟨_, hS, rfl⟩, PySem.F.args_list_init_2 _ _, ?_⟩
  have fr : H s.heap.objs.size = none := I.hok.fresh (Nat.le_refl _)
  obtain ⟨hI, hL, fin⟩ := hq _ fr
  have I1 : L2.Inv X pins σ (upd H s.heap.objs.size (.lst [])) { s with heap := s.heap.push { cls := .type "list", data := .seq #[] } } := I.lnew (its := []) (t' := s.toks) .nil (Nat.zero_le _)
  show wpAny _ _ (do let old ← Builtin.List.listItems (.ref s.heap.objs.size); Builtin.List.listUpdate (.ref s.heap.objs.size) (fun _ => #[]); letGo old.toList.reverse; Builtin.List.listExtendWith (.ref s.heap.objs.size) (.ref a) .none) _ _ _
  refine wpAny_bind ?_
  unfold Builtin.List.listItems
  refine wpAny_bind (wpAny_seqItems hS rfl (wpAny_pure ?_))
  show wpAny _ _ (updateSeq s.heap.objs.size (fun _ => #[]) >>= fun _ => letGo (#[] : Array Value).toList.reverse >>= fun _ => Builtin.List.listExtendWith (.ref s.heap.objs.size) (.ref a) .none) _ _ _
  refine wpAny_bind (wpAny_updateSeq hS rfl ?_)
  have I2 := I1.lset (f := fun _ => #[]) (its := []) (its' := []) (ys := []) (t' := s.toks) upd_same hS rfl .nil (Nat.zero_le _)
  rw [upd_upd] at I2
  refine wpAny_bind (wpAny_letGo ?_)
  have ha2 : upd H s.heap.objs.size (.lst []) a = some (.ins C dx fs) := by rw [upd_ne (ne_of_none ha fr)]; exact ha
  obtain ⟨oT, hT⟩ := hte
  have ntq : t ≠ s.heap.objs.size := ne_of_none hT fr
  exact own_extend2 (A1 := X.A.in1) (q := s.heap.objs.size) (Rs := wants (fun r s₂ => r = .none ∧ EP X pins σ Q (.ref s.heap.objs.size) s₂) X.xe) (I.ok.hd hcm) sb hc FI bI FL bL
    (fun H' s' I' keep hz' => ⟨rfl, .ref s.heap.objs.size, H', I', rfl, fin H' (fun b u hb => keep b u (ne_of_none hb fr) (by rw [upd_ne (ne_of_none hb fr)]; exact hb)) hz'⟩) (fun e s' he => he) I2 ha2 upd_same (sqT_upd ht ntq) ⟨oT, by rw [upd_ne ntq]; exact hT⟩ ntq hz hn hI hL
end
end Lay

set_option Elab.async false
set_option linter.all false
set_option maxRecDepth 100000
set_option maxHeartbeats 4000000
/-! LayU: name = [..] on one line, also where an exception is handled -/
namespace Lay
open PySem PySem.Spec PyProof.Rows L2 HotX
section
variable {X : Cx}
theorem lcW_core {elt tg l : Expr} {ifs : List Expr} {scope : Scope} {own : List (Str × Nat)} {pos : Pos} {tl : TE} {g : TG} {tt : TT} {te : TE} {pins : List (Addr × Obj)} {s : Shared} {σ : L2.St} {H : Hp} {Q : VK} {use : Option (Value → Sem Unit)} {Qf : Value → Shared → Prop} {pos' : Pos} (hw : Warm X) (hN : X.N.Nodup)
    (hl : ∀ R : VK, tl σ H R → wpAny (model X.prog X.w) X.A (eval l X.env) (EP X pins σ R) X.xe s) (ok : BlkOk X.N X.env.scope scope own)
    (hg : ∀ s H C cl fp, PG (blkP X s H scope (compEnvC scope cl C X.env) fp) tg g) (ht : ∀ s H C cl fp, PTs (blkP X s H scope (compEnvC scope cl C X.env) fp) ifs tt)
    (he : ∀ s H C cl fp, PE (blkP X s H scope (compEnvC scope cl C X.env) fp) elt te) (I : L2.Inv X pins σ H s) (h : tLcW X.K tl g tt te (own.map (·.2)) σ H Q) (hs : ∀ x, foldedSetIterable l X.env x = pure x)
    (hRR : ∀ D C s' m H', L2.Inv X pins σ H' s' → Q (.ref D) H' → s'.heap.Ns C m → FpOk X pins H' C → compPost (model X.prog X.w) X.A X.xe use Qf (.ref D) C (.ok .next) s') :
    wpAny (model X.prog X.w) X.A (comprehension (.ListComp elt [⟨tg, l, ifs, 0⟩] scope pos) scope X.env pos' (newList []) false (eval l X.env) use) Qf X.xe s := by
  have caught : ∀ y ∈ scope.names, y.2 = .free → ∃ c, X.env.cells.lookup y.1 = some c := fun y hy e => I.ok.has _ ((ok.free y hy e).imp id id)
  refine wpAny_comprehension_free (use := use) rfl hs (closure_ok caught) ok.kind (fun y hy e => by rw [ok.uniq y hy, e]) (thn (hl _ h) ?_)
  rintro u s1 ⟨x, H1, I1, r1, a, xs, f, rfl, sq, step, fin⟩
  cases r1
  obtain ⟨its, rv, isl, hz⟩ := I1.list sq
  refine wpAny_pyIter_list isl.isList ?_
  generalize hit : s1.heap.objs.size = it
  generalize e2 : ({ heap := s1.heap.push { cls := Value.type "list_iterator", data := Data.fields #[Value.ref a, Value.int 0 0] }, gens := s1.gens, drawn := s1.drawn, toks := s1.toks, os := s1.os } : Shared) = s2
  have w2 : s2.heap = s1.heap.push { cls := Value.type "list_iterator", data := Data.fields #[Value.ref a, Value.int 0 0] } := by rw [← e2]
  have keep12 : ∀ b o, s1.heap.get? b = some o → s2.heap.get? b = some o := fun b o e => by rw [w2]; exact Heap.get?_push_of_some _ e
  have I2 : L2.Inv X pins σ H1 s2 := e2 ▸ I1.kept (t' := s1.toks) fun b o e => Heap.get?_push_of_some _ e
  have li2 : s2.heap.IsListIter it a 0 := ⟨_, by rw [w2, ← hit]; exact Heap.get?_push_size _ rfl, rfl, rfl⟩
  refine wpAny_newObj_type (newEnv_comp ?_) (by show 0 ≤ sizeLine; decide)
  generalize hD : s2.heap.objs.size = D
  have noD : H1 D = none := I2.hok.fresh (Nat.le_of_eq hD)
  have itD : it ≠ D := by
    obtain ⟨o, e, _⟩ := li2
    rw [← hD]
    exact Nat.ne_of_lt (Heap.lt_size e)
  generalize e3 : ({ s2 with heap := s2.heap.push { cls := .type "list", data := .seq ([] : List Value).toArray } } : Shared) = s3
  have w3 : s3.heap = s2.heap.push { cls := .type "list", data := .seq ([] : List Value).toArray } := by rw [← e3]
  have keep23 : ∀ b o, s2.heap.get? b = some o → s3.heap.get? b = some o := fun b o e => by rw [w3]; exact Heap.get?_push_of_some _ e
  have I3 : L2.Inv X pins σ (upd H1 D (.lst [])) s3 := by
    have newL : ObjOk X.prog X.w (upd H1 D (.lst [])) (s2.heap.push { cls := .type "list", data := .seq ([] : List Value).toArray }) D (.lst []) := ⟨Nat.zero_le _, [], 0, .nil, by rw [← hD]; exact Heap.get?_push_size _ rfl⟩
    exact e3 ▸ I2.laid (t' := s2.toks) (fun b o e => Heap.get?_push_of_some _ e) (Nat.le_of_eq hD) newL
  have li3 : s3.heap.IsListIter it a 0 := li2.at fun o e => keep23 it o e
  have fresh_it : ∀ {H' : Hp}, H' it = none → FpOk X pins H' it := fun n => I1.fpOk (Nat.le_of_eq hit) n
  have nit : H1 it = none := I1.hok.fresh (Nat.le_of_eq hit)
  have B := block_start (fp := [it]) I3 ok hN (fun b hb => by
    obtain rfl : b = it := by simpa using hb
    obtain ⟨o, e, _⟩ := li3
    exact ⟨fresh_it (by rw [upd_ne itD]; exact nit), Heap.lt_size e⟩)
  have pg := hg s3 (upd H1 D (.lst [])) s3.heap.objs.size (cellsFrom (s3.heap.objs.size + 1) scope.names (cloFrom X.env.cells scope.names [])) [it]
  have pt := ht s3 (upd H1 D (.lst [])) s3.heap.objs.size (cellsFrom (s3.heap.objs.size + 1) scope.names (cloFrom X.env.cells scope.names [])) [it]
  have pe := he s3 (upd H1 D (.lst [])) s3.heap.objs.size (cellsFrom (s3.heap.objs.size + 1) scope.names (cloFrom X.env.cells scope.names [])) [it]
  show codeAny _ _ (.compStart (.ListComp elt [⟨tg, l, ifs, 0⟩] scope pos) 0 (.ref it) (.ref D) (compEnvC scope (cellsFrom (s3.heap.objs.size + 1) scope.names (cloFrom X.env.cells scope.names [])) s3.heap.objs.size X.env))
    (compPost (model X.prog X.w) X.A X.xe use Qf (.ref D) s3.heap.objs.size) { s3 with heap := pushCells (s3.heap.push { cls := .type "dict", data := .dict #[] }) scope.names }
  generalize hce : compEnvC scope (cellsFrom (s3.heap.objs.size + 1) scope.names (cloFrom X.env.cells scope.names [])) s3.heap.objs.size X.env = ce at B pg pt pe ⊢
  have ceL : ce.locals = s3.heap.objs.size := by rw [← hce]; rfl
  generalize e4 : ({ s3 with heap := pushCells (s3.heap.push { cls := .type "dict", data := .dict #[] }) scope.names } : Shared) = s4 at B ⊢
  have keep34 : ∀ b o, s3.heap.get? b = some o → s4.heap.get? b = some o := fun b o e => by rw [← e4]; exact pushCells_keeps _ _ _ _ (Heap.get?_push_of_some _ e)
  have li4 : s4.heap.IsListIter it a 0 := li3.at fun o e => keep34 it o e
  have J4 : L2.Inv (blkP X s3 (upd H1 D (.lst [])) scope ce [it]) [] (wipe σ (own.map (·.2))) (upd H1 D (.lst [])) s4 := by
    refine ⟨B.ok.toTry _ _, B.os, B.bare, B.base, B.loc, B.cell, B.free, B.freeC, fun p hp => ?_, B.hok, B.len⟩
    have hp' : p ∈ X.pn := by simpa using hp
    obtain ⟨p1, p2, p3, p4, p5⟩ := I3.pin p (List.mem_append_left _ hp')
    refine ⟨keep34 _ _ p1, p2, ?_, fun z => ?_, p5⟩
    · show p.1 ≠ ce.locals
      rw [ceL]
      exact Nat.ne_of_lt (Heap.lt_size p1)
    · rcases List.mem_cons.mp (I3.stkSub _ z) with z | z
      · exact p3 z
      · exact p4 z
  have sqD : ∀ acc, SqL X.K (upd H1 D (.lst acc)) a xs := fun acc => SqL.ext sq (Ext.upd noD)
  -- the loop
  have loop : codeAny (model X.prog X.w) X.A (.compLoop (.ListComp elt [⟨tg, l, ifs, 0⟩] scope pos) 0 (.ref it) (.ref D) ce) (compPost (model X.prog X.w) X.A X.xe use Qf (.ref D) s3.heap.objs.size) s4 := by
    refine compLoop_any (fun n s' => ∃ i, i ≤ xs.length ∧ n = xs.length - i ∧ L2.Inv (blkP X s3 (upd H1 D (.lst [])) scope ce [it]) [] (wipe σ (own.map (·.2))) (upd H1 D (.lst ((xs.take i).filterMap f))) s' ∧ s'.heap.IsListIter it a i) ?_ xs.length
      ⟨0, Nat.zero_le _, rfl, by rw [List.take_zero]; exact J4, li4⟩
    rintro n s5 ⟨i, hi, rfl, I5, li5⟩
    obtain ⟨its5, rv5, isl5, hz5⟩ := I5.list (sqD ((xs.take i).filterMap f))
    have len5 := rv5.length
    have fine : ∀ {s' : Shared} {H' : Hp} {σ' : L2.St}, L2.Inv (blkP X s3 (upd H1 D (.lst [])) scope ce [it]) [] σ' H' s' → H' it = none → FpOk (blkP X s3 (upd H1 D (.lst [])) scope ce [it]) [] H' it := fun I' n' => by
      refine ⟨n', (I'.ok.exf it (List.mem_singleton.mpr rfl)).1, I'.ok.exfs it (List.mem_singleton.mpr rfl), .inl (List.mem_singleton.mpr rfl), fun x c e => (I'.ok.exf it (List.mem_singleton.mpr rfl)).2 x c e, fun p hp z => ?_⟩
      have hp' : p ∈ X.pn := by simpa using hp
      have q := (I1.pin p (List.mem_append_left _ hp')).1
      rw [z, ← hit] at q
      exact absurd (Heap.lt_size q) (Nat.lt_irrefl _)
    have n5 : ∀ acc, upd H1 D (.lst acc) it = none := fun acc => by rw [upd_ne itD]; exact nit
    obtain ⟨f0, f1, f2, f3, f4, f5⟩ := fine I5 (n5 _)
    by_cases hlt : i < xs.length
    · have hx : xs[i]? = some xs[i] := List.getElem?_eq_getElem hlt
      obtain ⟨u, hu, ru⟩ := rv5.get hx
      refine thnF (wpAny_pyNext_list_item (Q := fun r s' => r = some u ∧ ∃ h', s' = { s5 with heap := h' } ∧ h'.IsListIter it a (i + 1) ∧ Heap.SameBut it s5.heap h') li5 isl5.isList (x := u) (by simpa using hu) fun h' st' sb => ⟨rfl, h', rfl, st', sb⟩) ?_
      rintro r s6 ⟨rfl, h', rfl, st', sb⟩
      have I6 : L2.Inv (blkP X s3 (upd H1 D (.lst [])) scope ce [it]) [] (wipe σ (own.map (·.2))) (upd H1 D (.lst ((xs.take i).filterMap f))) { s5 with heap := h' } := I5.turned (t' := s5.toks) (fun b o hb e => (sb.2 b hb).trans e) f0 f1 f3 f4 f5
      obtain ⟨oi, ei, ci, di⟩ := id st'
      refine thnF (go_of (Q := fun _ s' => s' = { s5 with heap := h' }) (s := { s5 with heap := h' }) ei ci di (by decide) rfl) ?_
      rintro _ s7 rfl
      have I7 := I6.pinned (fp := [it]) (fun b hb => by obtain rfl : b = it := by simpa using hb
                                                        exact fine I6 (n5 _)) (fun b hb => by obtain rfl : b = it := by simpa using hb
                                                                                              exact ⟨oi, ei, fun v z => by rw [di] at z; cases z⟩)
      refine thnF (pg.run _ _ _ _ xs[i] u _ I7 ru (step D _ xs[i] noD (List.getElem_mem hlt))) ?_
      rintro _ s8 ⟨σ8, H8, I8, rfl, w8, q8⟩
      refine thnF (pt.run _ s8 σ8 _ _ I8 q8) ?_
      rintro b s9 ⟨H9, I9, rfl, q9⟩
      -- the end of a turn
      have next : ∀ {s' : Shared}, L2.Inv (blkP X s3 (upd H1 D (.lst [])) scope ce [it]) ([] ++ pinsAt [it] h') σ8 (upd H1 D (.lst ((xs.take (i + 1)).filterMap f))) s' →
          ∃ m, m < xs.length - i ∧ ∃ i', i' ≤ xs.length ∧ m = xs.length - i' ∧ L2.Inv (blkP X s3 (upd H1 D (.lst [])) scope ce [it]) [] (wipe σ (own.map (·.2))) (upd H1 D (.lst ((xs.take i').filterMap f))) s' ∧ s'.heap.IsListIter it a i' := fun {s'} I' => by
        have q := (I'.pin (it, oi) (List.mem_append_right _ (List.mem_append_right _ (mem_pinsAt (by simp) ei)))).1
        refine ⟨xs.length - (i + 1), by omega, i + 1, hlt, rfl, (I'.unpinned (pins := [])).weak (by rw [← w8, wipe_length]) fun j v e => ?_, ⟨oi, q, ci, di⟩⟩
        rw [← w8] at e
        exact (wipe_some e).1
      have tk : (xs.take (i + 1)).filterMap f = (xs.take i).filterMap f ++ [xs[i]].filterMap f := by rw [List.take_succ_eq_append_getElem hlt, List.filterMap_append]
      have few : ((xs.take i).filterMap f).length < sizeLine := by
        have a1 := List.length_filterMap_le f (xs.take i)
        rw [List.length_take] at a1
        omega
      cases hf : f xs[i] with
      | none =>
        rw [hf] at q9
        obtain rfl : b = false := q9
        have e : (xs.take (i + 1)).filterMap f = (xs.take i).filterMap f := by rw [tk]; simp [hf]
        rw [if_neg Bool.false_ne_true]
        exact next (e ▸ I9)
      | some z =>
        rw [hf] at q9
        obtain ⟨rfl, q9⟩ := q9
        have e : (xs.take (i + 1)).filterMap f = (xs.take i).filterMap f ++ [z] := by rw [tk]; simp [hf]
        rw [if_pos rfl]
        refine thnF (pe.run _ s9 σ8 _ _ I9 q9) ?_
        rintro v s10 ⟨z', H10, I10, r10, rfl, rfl⟩
        refine app_ok (X := blkP X s3 (upd H1 D (.lst [])) scope ce [it]) I10 upd_same few r10 fun s11 I11 => next ?_
        rw [upd_upd] at I11
        rw [e]
        exact I11
    · have last : i = xs.length := by omega
      subst last
      have hand := (hw.blk (X := X) (s := s3) (H := upd H1 D (.lst [])) (scope := scope) (cenv := ce) (fp := [it])).hand _ _ _ _ I5
      refine thnF (list_end_any (Q := fun r s' => r = none ∧ ∃ h', s' = { s5 with heap := h' } ∧ Heap.ExtBut it s5.heap h') hand li5 isl5.isList (by simp; omega) fun h' eb => ⟨rfl, h', rfl, eb⟩) ?_
      rintro r s6 ⟨rfl, h', rfl, eb⟩
      have I6 : L2.Inv (blkP X s3 (upd H1 D (.lst [])) scope ce [it]) [] (wipe σ (own.map (·.2))) (upd H1 D (.lst ((xs.take xs.length).filterMap f))) { s5 with heap := h' } := I5.turned (t' := s5.toks) (fun b o hb e => eb b o hb e) f0 f1 f3 f4 f5
      rw [List.take_length] at I6
      have back : L2.Inv X pins σ (upd H1 D (.lst (xs.filterMap f))) { s5 with heap := h' } := I3.call' (ch := [it]) I6.os I6.base I6.hok I6.bare fun b hb => by
        obtain rfl : b = it := by simpa using hb
        have g := fresh_it (H' := upd H1 D (.lst [])) (n5 _)
        exact ⟨g.2.2.2.1, g.2.1, g.2.2.2.2.1, g.2.2.2.2.2⟩
      have nC : upd H1 D (.lst (xs.filterMap f)) s3.heap.objs.size = none := ceL ▸ I6.free
      obtain ⟨m, hn, _⟩ := I6.loc
      have hn : Heap.Ns h' s3.heap.objs.size m := ceL ▸ hn
      exact hRR D _ { s5 with heap := h' } m _ back (fin D noD) hn (I3.fpOk (Nat.le_refl _) nC)
  exact codeAny_compStart_list loop (wpAny_pyIter_listiter li4 loop)
theorem ps_setLcW {i : Nat} {y : Str} {py : Pos} {elt tg l : Expr} {ifs : List Expr} {scope : Scope} {own : List (Str × Nat)} {pos spos : Pos} {tl : TE} {g : TG} {tt : TT} {te : TE} (hw : Warm X) (hN : X.N.Nodup) (hy : X.N[i]? = some y) (hyl : X.env.scope.names.lookup y = some .local)
    (hsw : swapsWith (.ListComp elt [⟨tg, l, ifs, 0⟩] scope pos) (some (.Name y py)) spos.line X.env = pure true) (hl : PE X l tl) (ok : BlkOk X.N X.env.scope scope own)
    (hg : ∀ s H C cl fp, PG (blkP X s H scope (compEnvC scope cl C X.env) fp) tg g) (ht : ∀ s H C cl fp, PTs (blkP X s H scope (compEnvC scope cl C X.env) fp) ifs tt)
    (he : ∀ s H C cl fp, PE (blkP X s H scope (compEnvC scope cl C X.env) fp) elt te) (hs : ∀ x, foldedSetIterable l X.env x = pure x := by intro _; rfl) :
    PS X (.Assign [.Name y py] (.ListComp elt [⟨tg, l, ifs, 0⟩] scope pos) spos) (tAsg (tLcW X.K tl g tt te (own.map (·.2))) (gName i)) := by
  refine ⟨fun pins s σ H D I h => ?_⟩
  rw [exec_Assign_Name_used _ _ _ _ hsw]
  refine wpAny_bind (wpAny_standAt (wpAny_bind ?_))
  show wpAny _ X.A (do let _ ← comprehension (.ListComp elt [⟨tg, l, ifs, 0⟩] scope pos) scope X.env (firstIterPos [⟨tg, l, ifs, 0⟩] pos) (newList []) false (eval l X.env) (some (assign (.Name y py) X.env))) _ _ s
  have h : tLcW X.K tl g tt te (own.map (·.2)) σ H (fun x H1 => gName i x σ H1 D.nx) := h
  refine wpAny_bind (thn (lcW_core (Qf := fun _ s' => SP X pins D .next s') hw hN (fun R r => hl.run pins s σ H R I r) ok hg ht he I h hs fun L C s' m H' I' q hn f => ?_) fun _ s' hq => wpAny_pure (wpAny_pure hq))
  show wpAny _ _ (assign (.Name y py) X.env (.ref L)) _ _ _
  refine wpAny_assign_Name (store_ok2 (v := V.ref L) I' hN hy (.inl hyl) rfl (fun s2 I2 ⟨a, sb, ha⟩ => ?_) (.inr hyl))
  obtain ⟨f0, f1, f2, f3, f4, f5⟩ := f
  have haC : C ≠ a := by
    rcases ha with z | z
    · rw [z]; exact f1
    · exact fun e => f4 y a z e.symm
  refine ⟨m, hn.sameBut sb haC, fun h3 sb3 => ?_⟩
  exact ⟨_, H', I2.turned (t' := s2.toks) (fun b o hb e => (sb3.2 b hb).trans e) f0 f1 f3 f4 f5, q⟩
end
end Lay

set_option Elab.async false
set_option linter.all false
set_option maxRecDepth 100000
set_option maxHeartbeats 4000000
/-! LayV: a clause's test that is a tuple of names, of any number -/
namespace Lay
open PySem PySem.Spec PySem.Calls PyProof.Rows PySem.W
theorem forIn_all {M : Model} {h : Heap} {α β : Type} {body : α → β → Sem (ForInStep β)} {b0 : β} : ∀ {cs : List α}, (∀ c ∈ cs, Looks M h (body c b0) (.yield b0)) → Looks M h (forIn cs b0 body) b0
  | [], _ => by
    rw [List.forIn_nil]
    exact .now
  | c :: r, hb => by
    rw [List.forIn_cons]
    exact (hb c List.mem_cons_self).andThen (forIn_all fun d hd => hb d (List.mem_cons_of_mem _ hd))
theorem forIn_any {M : Model} {h : Heap} {α β : Type} {body : α → β → Sem (ForInStep β)} {b0 bT : β} {v : α → Bool} : ∀ {cs : List α}, (∀ c ∈ cs, Looks M h (body c b0) (if v c = true then .done bT else .yield b0)) → Looks M h (forIn cs b0 body) (if cs.any v = true then bT else b0)
  | [], _ => by
    rw [List.forIn_nil]
    exact .now
  | c :: r, hb => by
    rw [List.forIn_cons, List.any_cons]
    have h0 := hb c List.mem_cons_self
    cases e : v c with
    | true =>
      rw [e] at h0
      exact h0.andThen .now
    | false =>
      rw [e] at h0
      rw [Bool.false_or]
      exact h0.andThen (forIn_any fun d hd => hb d (List.mem_cons_of_mem _ hd))
/-- the answers of the classes -/
theorem exmAny_all {K : Frag} {cls : Value} : ∀ {cs : List Value} {b : Bool}, exmAny K cls cs = some b → ∃ v : Value → Bool, (∀ c ∈ cs, exmOne K cls c = some (v c)) ∧ cs.any v = b := by
  intro cs b h
  refine ⟨fun c => (exmOne K cls c).getD false, ?_⟩
  induction cs generalizing b with
  | nil =>
    cases h
    exact ⟨(fun c hc => by cases hc), rfl⟩
  | cons c r ih =>
    obtain ⟨b1, d1, h1, h2, rfl⟩ := exmAny_cons h
    obtain ⟨i1, i2⟩ := ih h2
    refine ⟨fun d hd => ?_, ?_⟩
    · rcases List.mem_cons.mp hd with rfl | hd
      · dsimp only
        rw [h1]
        rfl
      · exact i1 d hd
    · rw [List.any_cons, i2, h1]
      rfl
theorem exm_tupN {M : Model} {K : Frag} {cs : List Value} {cls : Value} {tp e : Addr} {b : Bool} {h : Heap} (X : K.In h) (LT : Looks M h (typeOf (.ref e)) cls) (hp : h.get? tp = some { cls := .type "tuple", data := .seq cs.toArray }) (hx : exmAny K cls cs = some b) :
    Looks M h (excMatches (.ref e) (.ref tp)) b := by
  intro A Q E s k₀ q
  obtain ⟨hh, g, d, tk, os⟩ := s
  have k : ∀ b o, h.get? b = some o → hh.get? b = some o := k₀
  have LT0 : Looks M h (isInstance (.ref tp) (.type "tuple")) true := ((Looks.ld hp).andThen .now).andThen (Looks.of_pure isSubtype_tuple_tuple)
  obtain ⟨v, hv, rfl⟩ := exmAny_all hx
  have LT := LT.keeps k
  have LT0 := LT0.keeps k
  have hp' := k _ _ hp
  unfold excMatches
  refine wpAny_bind (LT0.at ?_)
  dsimp only
  rw [if_pos rfl]
  first
    | refine wpAny_bind (wpAny_seqItems hp' rfl ?_)
    | refine wpAny_bind (wpAny_bind (wpAny_seqItems hp' rfl (wpAny_pure ?_)))
  dsimp only [Option.getD_some, Option.getD]
  refine wpAny_bind (wpAny_pure ?_)
  refine wpAny_bind ((forIn_all (cs := cs) fun c hc => ?_).at ?_)
  · obtain ⟨e1, _⟩ := exm_cls (M := M) X (hv c hc)
    exact (e1.keeps k).andThen .now
  · refine wpAny_bind (LT.at ?_)
    refine wpAny_bind ((forIn_any (cs := cs) (v := v) (bT := (some true, ())) fun c hc => ?_).at ?_)
    · obtain ⟨_, S1⟩ := exm_cls (M := M) X (hv c hc)
      refine (S1.keeps k).andThen ?_
      cases v c <;> exact .now
    · cases e : cs.any v with
      | true =>
        rw [e] at q
        exact wpAny_pure q
      | false =>
        rw [e] at q
        exact wpAny_pure q
end Lay
namespace Lay
open PySem PySem.Spec PyProof.Rows L2 HotX L2H
inductive NamesL (X : Cx) : List Expr → List Value → Prop
  | nil : NamesL X [] []
  | cons {x : Str} {np : Pos} {c : Value} {es : List Expr} {cs : List Value} (h : Names X x c) (r : NamesL X es cs) : NamesL X (.Name x np :: es) (c :: cs)
theorem NamesL.run {X : Cx} {p : Addr × Obj} {pn pins : List (Addr × Obj)} {σ : L2.St} {H : Hp} {s : Shared} {E : Value → Shared → Prop} {pos : Pos} (I : L2.Inv (X.suite p.1 (p :: pn)) pins σ H s) {es : List Expr} {cs : List Value} (n : NamesL X es cs) :
    ∀ {Q : List Value → Shared → Prop}, Q cs s → wpAny (model X.prog X.w) (X.A.mark (some (.ref p.1))) (spliced (backTo pos (starEach es X.env))) Q E s := by
  induction n with
  | nil => exact fun q => wpAny_items_nil q
  | cons h r ih =>
    intro Q q
    obtain ⟨hg, hdbg, hm | ⟨hm, hv, hnn⟩⟩ := h
    · exact wpAny_items_cons (ld_glob (X := X.suite p.1 (p :: pn)) I hg hm (ih q) hdbg)
    · exact wpAny_items_cons (ld_blt (X := X.suite p.1 (p :: pn)) I hg hm hv (ih q) hnn hdbg)
theorem tst_tup {X : Cx} {es : List Expr} {cs : List Value} {k : Nat} {tpos : Pos} (n : NamesL X es cs) (few : cs.length ≤ 1000) : Tst X (.Tuple es k tpos) (fun cls => PySem.W.exmAny X.K cls cs) := by
  intro p pn pins σ H s b Q E I hm h
  have at_p := (I.pin p (List.mem_append_left _ List.mem_cons_self)).1
  have ty : PySem.W.Looks (model X.prog X.w) s.heap (typeOf (.ref p.1)) p.2.cls := fun A Q E s k q => wpAny_typeOf_ref (k _ _ at_p) q
  refine wpAny_Tuple (n.run I ⟨small (by omega), ?_⟩)
  have kp : ∀ q o, s.heap.get? q = some o → (s.heap.push { cls := .type "tuple", data := .seq cs.toArray }).get? q = some o := fun _ _ z => Heap.get?_push_of_some _ z
  exact (exm_tupN (M := model X.prog X.w) (I.kIn.keeps kp) (ty.keeps kp) (Heap.get?_push_size s.heap rfl) hm).here (h _ s.toks kp)
end Lay

set_option Elab.async false
set_option linter.all false
set_option maxRecDepth 100000
set_option maxHeartbeats 4000000
/-! LayW: x (not) in a list of nested data; pigeonhole -/
namespace Lay
open PySem PySem.Spec PyProof.Rows L2
def rNotInD (K : PySem.W.Frag) : V → V → Hp → VK → Prop := fun x y H Q => ∃ d ds, Dp K H x d ∧ Dp K H y (.list ds) ∧ SeqAt.shaped d = true ∧ SeqAt.shaped (.list ds) = true ∧ Q (.bl (!ds.any fun e => PyData.eqv e d)) H
theorem op_notInD {X : Cx} (hu : X.A.units + 65 < cLine) : OpR X (compareOp .NotIn) (rNotInD X.K) := by
  intro pins s σ H x y v u Q I rx ry h
  obtain ⟨d, ds, hd, he, sd, se, q⟩ := h
  obtain ⟨as, r1⟩ := Dp.reads I d x v hd rx
  obtain ⟨bs, r2⟩ := Dp.reads I (.list ds) y u he ry
  exact PySem.SeqAt.notIn_list_reads r2 r1 (SeqAt.canLay_of_shaped se) (SeqAt.canLay_of_shaped sd) (room_in_shaped sd hu) ⟨.bl _, H, I, rfl, q⟩
/-- more different things than fit into ys do not all stand there -/
theorem pigeons {α : Type} [DecidableEq α] : ∀ {xs ys : List α}, xs.Nodup → (∀ x ∈ xs, x ∈ ys) → xs.length ≤ ys.length
  | [], _, _, _ => Nat.zero_le _
  | x :: xs, ys, nd, h => by
    rw [List.nodup_cons] at nd
    have hx := h x List.mem_cons_self
    have ih := pigeons (ys := ys.erase x) nd.2 fun y hy => (List.mem_erase_of_ne (fun e : y = x => nd.1 (by rw [← e]; exact hy))).mpr (h y (List.mem_cons_of_mem _ hy))
    rw [List.length_erase_of_mem hx] at ih
    have := List.length_pos_of_mem hx
    rw [List.length_cons]
    omega
end Lay
namespace Lay
open PySem PySem.Spec PyProof.Rows L2
open SX (S S_len)
/-- 'x' * n, also none and once -/
def rRepN : R2 := fun x y H Q => ∃ (c : Nat) (n : Nat), x = .str (S [c]) ∧ y = .int (n : Int) ∧ n ≤ 1000000 ∧ Q (.str (S (List.replicate n c))) H
theorem op_repN {X : Cx} : OpR X (binaryOp .Mult) rRepN := by
  rintro pins s σ H x y v u Q I rx ry ⟨c, n, rfl, rfl, hm, q⟩
  by_cases h2 : 2 ≤ n
  · exact op_repS pins s σ H _ _ v u Q I rx ry ⟨c, n, rfl, rfl, h2, hm, q⟩
  · obtain ⟨t, rfl⟩ := rx
    obtain ⟨t', rfl⟩ := ry
    have l1 : (S [c]).length = 1 := S_len _
    by_cases h0 : n = 0
    · subst h0
      exact P.mul_str_none (by decide) (by decide) ⟨.str _, H, I.tok _, ⟨_, rfl⟩, q⟩
    · obtain rfl : n = 1 := by omega
      refine P.mul_str (by decide) (fun _ z => ?_) (fun _ z => ?_) ?_
      · exact absurd (show true = false from z) (by decide)
      · exact absurd (show true = false from z) (by decide)
      · rw [if_neg (by decide), if_pos (show (((1 : Nat) : Int) == 1 || (S [c]).length == 0) = true from rfl)]
        exact ⟨.str _, H, I, ⟨_, rfl⟩, q⟩
end Lay

set_option Elab.async false
set_option linter.all false
set_option maxRecDepth 100000
set_option maxHeartbeats 4000000
/-! LayX: [.. for v in l if ..]; a def with own errors where none comes -/
namespace Lay
open PySem PySem.Spec PyProof.Rows L2
theorem lc_list {K : PySem.W.Frag} {tl : TE} {tt : TT} {te : TE} {v : Nat} {σ : L2.St} {H H1 : Hp} {Q : VK} {l : Addr} {xs : List V} (h : ∀ R : VK, R (.ref l) H1 → tl σ H R) (hl : SqL K H1 l xs)
    (hw : ∀ x, wipe ((wipe σ [v]).set v (some x)) [v] = wipe σ [v])
    (k : ∀ D, H1 D = none → ∃ Pv : Nat → Hp → Prop, Pv 0 (upd H1 D (.lst [])) ∧ (∀ i H', i ≤ xs.length → Pv i H' → SqL K H' l xs) ∧
      (∀ i x H', xs[i]? = some x → Pv i H' → tt ((wipe σ [v]).set v (some x)) H' fun b H3 => if b = true then te ((wipe σ [v]).set v (some x)) H3 fun y H4 => ∃ acc, H4 D = some (.lst acc) ∧ acc.length < sizeLine ∧ Pv (i + 1) (upd H4 D (.lst (acc ++ [y]))) else Pv (i + 1) H3) ∧
      ∀ H', Pv xs.length H' → Q (.ref D) H') :
    tLc (iList K tl) (gName v) tt te [v] σ H Q := by
  refine h _ ⟨l, rfl, ⟨xs, hl⟩, fun D hD => ?_⟩
  obtain ⟨Pv, h0, hG, hs, hd⟩ := k D hD
  refine lc_it walk_list Pv h0 (fun i H' hi hP => hG i H' hi hP) ?_ hd
  rintro i x H' H2 hi hP ⟨rfl, e⟩
  exact ⟨hw _, hs i x _ e hP⟩
theorem pe_cN0 {X : Cx} {k j : Nat} {x : Str} {sp : Sp} {p pos : Pos} {e : Expr} {es : List Expr} {t : TA} (c : CalN X.prog X.w X.K X.mg X.base k x sp) (hr : Room j X.A) (hk : k ≤ j) (hg : Gl X x) (ha : PA X (e :: es) t)
    (hdb : (x == ("__debug__" : Str)) = false := by decide) (he : starEach (e :: es) X.env = (false, eval e X.env) :: starEach es X.env := by rfl) (hpl : (backTo pos (starEach es X.env)).any (·.1) = false := by rfl) :
    PE X (.Call (.Name x p) (e :: es) [] pos) (tCallS sp (fun _ => C8.E0) t) := by
  obtain ⟨f, fd, ps, F, hm, kp, b⟩ := c.ex
  exact pe_callS F (hr.mono hk) hg hm kp b (fun σ pins H s e s' I c => by
    obtain ⟨_, _, _, _, _, _, _, _, _, _, _, _, z⟩ := c
    exact z.elim) ha hdb he hpl
end Lay

set_option Elab.async false
set_option linter.all false
set_option maxRecDepth 100000
set_option maxHeartbeats 4000000
/-! LayY: enumerate(tuple) -/
namespace Lay
open PySem PySem.Spec PyProof.Rows L2
set_option maxHeartbeats 8000000 in
theorem meets_enum1 {v : Value} {o : Obj} {H : Heap → Prop} (B : Begins v o H) :
    Meets (Builtin.«enumerate.__new__» ⟨[.type "enumerate", v], []⟩) (fun _ R s => H s.heap ∧
      R (.ok (.ret (.ref (s.heap.push o).objs.size))) { s with heap := (s.heap.push o).push { cls := .type "enumerate", data := .fields #[.none, .bool false, .ref s.heap.objs.size, rawInt 0, .none, .none] } }) :=
  .of_wp fun prog w A R s h => by
    obtain ⟨hp, g, d, tk, os⟩ := s; obtain ⟨h1, h⟩ := h
    have hsub := sub_enumerate
    have q1 : ∀ {A' : Around} {E : Value → Shared → Prop} {Q : Value → Shared → Prop}, Q (.ref hp.objs.size) ⟨hp.push o, g, d, tk, os⟩ → wpAny (model prog w) A' (pyIter v) Q E ⟨hp, g, d, tk, os⟩ :=
      fun q => B.iter prog w _ _ ⟨hp, g, d, tk, os⟩ _ h1 q
    wp_walk using q1
    refine wpAny_stack_any fun st => wpAny_pure ?_
    split
    · rename_i c _ _ _ _ _
      cases (c == Value.type "enumerate")
      · wp_walk using q1
        exact ⟨_, rfl, h⟩
      · wp_walk using q1
        exact ⟨_, rfl, h⟩
    · wp_walk using q1
      exact ⟨_, rfl, h⟩
theorem enum_begins1 {prog : Program} {w : World} {A : Around} {E : Value → Shared → Prop} {s : Shared} {v : Value} {o : Obj} {H : Heap → Prop} {Q : Value → Shared → Prop} (B : Begins v o H) (h1 : H s.heap)
    (h : ∀ h', IsEnum h' (s.heap.objs.size + 1) s.heap.objs.size 0 .none → h'.get? s.heap.objs.size = some o → h'.objs.size = s.heap.objs.size + 2 →
      (∀ b o, s.heap.get? b = some o → h'.get? b = some o) → Q (.ref (s.heap.objs.size + 1)) { s with heap := h' }) :
    wpAny (model prog w) A (call (.type "enumerate") [v]) Q E s := by
  refine callType_new F.called_enumerate (by decide) (F.typeCall_enumerate_1 _) (F.newCall_enumerate_1 _) (fun obj => F.args_object_init_2 obj _) F.entry_enumerate_new
    (meets_enum1 B) ⟨h1, ?_⟩
  have hz : (s.heap.push o).objs.size = s.heap.objs.size + 1 := Heap.size_push ..
  show _ ∧ _
  rw [hz]
  have he : IsEnum ((s.heap.push o).push { cls := .type "enumerate", data := .fields #[.none, .bool false, .ref s.heap.objs.size, rawInt 0, .none, .none] }) (s.heap.objs.size + 1) s.heap.objs.size 0 .none := by
    have := Heap.get?_push_size (s.heap.push o) (o := { cls := .type "enumerate", data := .fields #[.none, .bool false, .ref s.heap.objs.size, rawInt 0, .none, .none] }) rfl
    rw [hz] at this; exact this
  refine ⟨⟨_, he, rfl⟩, h _ he (Heap.get?_push_of_some _ (Heap.get?_push_size _ B.free)) (by rw [Heap.size_push, hz]) fun b o x => Heap.get?_push_of_some _ (Heap.get?_push_of_some _ x)⟩
theorem pyNext_enum_endT {prog : Program} {w : World} {A : Around} {E : Value → Shared → Prop} {s : Shared} {e it a : Addr} {k : Nat} {i : Int} {items : Array Value} {old : Value} {Q : Option Value → Shared → Prop}
    (hh : A.in1.handled = none) (he : IsEnum s.heap e it i old) (hit : s.heap.IsTupleIter it a k) (ht : s.heap.IsTuple a items) (hx : items[k]? = none)
    (hQ : ∀ h', Heap.ExtBut it s.heap h' → Q none { s with heap := h' }) : wpAny (model prog w) A (pyNext (.ref e)) Q E s := by
  have hT : s.TypeIs (.ref e) "enumerate" := ⟨_, he, rfl⟩
  unfold pyNext
  refine wpAny_bind (wpAny_attempt (wpAny_callSpecial?_slot (name := Str.ofString "__next__") hT F.slot_enumerate_next
    (wpAny_call_entry F.slot_enumerate_next hT F.entry_enumerate_next ?_ (F.args_enumerate_next_1 _))))
  show wpAny _ _ (field (.ref e) 2 >>= _) _ _ _
  refine wpAny_bind (wpAny_field he rfl (x := .ref it) rfl ?_)
  refine wpAny_bind (wpAny_nextOf_tuple_end hh hit ht hx fun h' x he' hx' => ?_)
  obtain ⟨o, ho, hc⟩ := hx'
  refine wpAny_bind (wpAny_isInstance (T := "StopIteration") (b := true) ⟨o, ho, hc⟩ isSubtype_stop ?_)
  exact wpAny_pure (hQ _ he')
/-- the tuple at a, each item in a new pair -/
def IteT (K : PySem.W.Frag) (a : Addr) : It :=
  ⟨fun i H => ∃ (xs : List V) (x : V), SqT K H a xs ∧ xs[i]? = some x, fun i H v H' => ∃ T x, v = .ref T ∧ H T = none ∧ H' = upd H T (.tup [.int (i : Nat), x]) ∧ ∀ xs, SqT K H a xs → xs[i]? = some x, fun i H => ∃ xs : List V, SqT K H a xs ∧ xs.length ≤ i⟩
theorem turn_enumT {P : Program} {w : World} {K : PySem.W.Frag} {elts : List Expr} {kk : Nat} {tpos : Pos} (a e it : Addr) :
    Turn P w K (.Tuple elts kk tpos) (IteT K a) [e, it] e (fun i h => (∃ old, IsEnum h e it ((i : Nat) : Int) old) ∧ h.IsTupleIter it a i ∧ e ≠ it ∧ a ≠ e ∧ a ≠ it) where
  mem := by simp
  obj := fun i h st b hb => by
    obtain ⟨⟨old, he⟩, ⟨o, ho, hc, hd⟩, _⟩ := st
    have e' : b = e ∨ b = it := by simpa using hb
    rcases e' with z | z
    · rw [z]; exact ⟨_, he, fun v q => nomatch q⟩
    · rw [z]; exact ⟨o, ho, fun v q => by rw [hd] at q; cases q⟩
  keep := fun i h h' st k => let ⟨⟨old, he⟩, hi, hne⟩ := st; ⟨⟨old, k e (by simp) _ he⟩, hi.at fun o q => k it (by simp) o q, hne⟩
  item := by
    intro X hP hw hK hc i pins s σ H E I hf st hg
    subst hP hw hK
    obtain ⟨⟨old, he⟩, hit, hne, hae, hai⟩ := st
    obtain ⟨xs, x, hq, hx⟩ := hg
    obtain ⟨its, rv, p, hz⟩ := I.tuple hq
    obtain ⟨u, hu, ru⟩ := rv.get hx
    have hel : e < s.heap.objs.size := Heap.lt_size he
    have hil : it < s.heap.objs.size := by obtain ⟨_, q, _⟩ := hit; exact Heap.lt_size q
    have hlt : i < its.toArray.size := by
      rw [List.size_toArray]
      exact (List.getElem?_eq_some_iff.mp hu).1
    refine wpAny_pyNext_enum_itemD (Draws.tuple (A := X.A.in1) (I.ok.hd hc) it a hai its.toArray) he ⟨hit, p⟩ hlt hne (by simp [hne, Ne.symm hae]) fun u' h' tk hP ho st' hT hsz hk => ?_
    have eu : u' = u := by
      have hP' : its.toArray[i]? = some u' := hP
      rw [List.getElem?_toArray, hu] at hP'
      exact (Option.some.inj hP').symm
    subst eu
    refine ⟨_, rfl, wpAny_letOwnedTupleGo_enum (s := { s with heap := h', toks := tk + 1 }) ho fun h'' he' sb => ?_⟩
    have hT2 : h''.get? s.heap.objs.size = some { cls := .type "tuple", data := .seq #[.int i tk, u'] } := (sb.2 _ (Nat.ne_of_gt hel)).trans hT
    have new : ObjOk X.prog X.w (upd H s.heap.objs.size (.tup [.int (i : Nat), x])) h'' s.heap.objs.size (.tup [.int (i : Nat), x]) :=
      ⟨by show 2 ≤ sizeLine; decide, [.int i tk, u'], .cons ⟨_, rfl⟩ (.cons ru .nil), ⟨_, hT2, rfl, _, rfl⟩⟩
    have I1 : Inv X pins σ (upd H s.heap.objs.size (.tup [.int (i : Nat), x])) { s with heap := h'', toks := tk + 1 } :=
      I.turnedNew (ch := [e, it]) (fun b ob hb q => (sb.2 b (fun z => hb (by simp [z]))).trans (hk b ob (fun z => hb (by simp [z])) (fun z => hb (by simp [z])) q)) hf (Nat.le_refl _) new
    refine ⟨.ref s.heap.objs.size, _, I1, rfl, ⟨_, x, rfl, I.hok.fresh (Nat.le_refl _), rfl, fun ys hy => by rw [I.tuple_inj hy hq]; exact hx⟩, ⟨⟨u', ?_⟩, st'.1.at fun o q => (sb.2 it (Ne.symm hne)).trans q, hne, hae, hai⟩, fun b hb => ?_⟩
    · have e1 : ((i + 1 : Nat) : Int) = (i : Int) + 1 := by omega
      rw [e1]; exact he'
    · have hb' : b < s.heap.objs.size := by
        have e' : b = e ∨ b = it := by simpa using hb
        rcases e' with z | z
        · rw [z]; exact hel
        · rw [z]; exact hil
      rw [upd_ne (Nat.ne_of_lt hb')]
      exact (hf b hb).1
  done := by
    intro X hP hw hK hc i pins s σ H E I hf st hg
    subst hP hw hK
    obtain ⟨⟨old, he⟩, hit, hne, hae, hai⟩ := st
    obtain ⟨xs, hq, hx⟩ := hg
    obtain ⟨its, rv, p, hz⟩ := I.tuple hq
    obtain ⟨f0, f1, f2, f3, f4, f5⟩ := hf it (by simp)
    have hl := rv.length
    exact pyNext_enum_endT (I.ok.hd hc) he hit p (by simp; omega) fun h' eb => ⟨rfl, I.turned (t' := s.toks) (fun b o hb q => eb b o hb q) f0 f1 f3 f4 f5⟩
  self := fun A i s Q E st h => let ⟨⟨_, he⟩, _⟩ := st; wpAny_pyIter_enum he h
def iEnumT (K : PySem.W.Frag) (ta : TA) : TI := fun σ H R => ta σ H fun vs H1 => ∃ a xs, vs = [.ref a] ∧ SqT K H1 a xs ∧ R (IteT K a) H1
theorem pi_enumT {X : Cx} {e : Expr} {ta : TA} {p pos tpos : Pos} {elts : List Expr} {kk : Nat} (hg : Gl X "enumerate") (hm : X.mg "enumerate" = none) (ha : PA X [e] ta) (hs : starEach [e] X.env = [(false, eval e X.env)] := by rfl) :
    PI X (.Tuple elts kk tpos) (.Call (.Name "enumerate" p) [e] [] pos) (iEnumT X.K ta) := by
  refine ⟨fun pins s σ H R I h => ?_⟩
  refine Call_ (ld_blt I hg hm boot_enumerate (PyProof.Rows.callWith_type1 (thn (ha.run pos pins s σ H _ I h) fun us s1 ⟨vs, H1, I1, r1, q1⟩ => ?_) hs rfl))
  obtain ⟨a, xs, ex, hq, q⟩ := q1
  subst ex
  cases r1 with
  | cons r rr =>
    cases rr
    cases r
    obtain ⟨its, rv, p', hz⟩ := I1.tuple hq
    have la : a < s1.heap.objs.size := p'.lt
    refine enum_begins1 (begins_tuple a its.toArray) p' fun h' he hit hsz hk => wpAny_pyIter_enum he ?_
    have I2 : Inv X pins σ H1 { s1 with heap := h' } := I1.kept (t' := s1.toks) hk
    refine ⟨s1.heap.objs.size + 1, [s1.heap.objs.size + 1, s1.heap.objs.size], _, _, H1, rfl, I2, turn_enumT a (s1.heap.objs.size + 1) s1.heap.objs.size, ⟨⟨.none, he⟩, ⟨_, hit, rfl, rfl⟩, Nat.succ_ne_self _, Nat.ne_of_lt (Nat.lt_succ_of_lt la), Nat.ne_of_lt la⟩, fun b hb => ?_, q⟩
    have e' : b = s1.heap.objs.size + 1 ∨ b = s1.heap.objs.size := by simpa using hb
    have hle : s1.heap.objs.size ≤ b := by
      rcases e' with z | z
      · rw [z]; exact Nat.le_add_right _ _
      · rw [z]; exact Nat.le_refl _
    exact I1.fpOk hle (I1.hok.fresh hle)
end Lay

set_option Elab.async false
set_option linter.all false
set_option maxRecDepth 100000
set_option maxHeartbeats 4000000
/-! LayZ: sorted(tuple of texts) -/
namespace Lay
open PySem PySem.Spec PyProof.Rows L2
section
variable {prog : Program} {w : World} {A : Around} {E : Value → Shared → Prop} {s : Shared}
theorem collect_tup {l : Addr} {vs : List Value} {Q : List Value → Shared → Prop} (hl : s.heap.IsTuple l vs.toArray)
    (h : Q vs { s with heap := (s.heap.push (seqObj "list" #[] 0)).update s.heap.objs.size (Obj.mapSeq (· ++ vs.toArray)) }) (hsz : vs.length ≤ sizeLine) : wpAny (model prog w) A (collect (.ref l)) Q E s := by
  obtain ⟨o, ho, hc, n, hd⟩ := id hl
  have hp : (s.heap.push (seqObj "list" #[] 0)).get? l = some o := Heap.get?_push_of_some _ ho
  unfold collect
  refine wpAny_bind (wpAny_runValue (codeAny_builtin entry_proto_collect' ?_))
  show wpAny _ _ (do again (.builtin "list.__iadd__" ⟨[← newList [], .ref l], []⟩)) _ _ s
  refine wpAny_bind (wpAny_newList (wpAny_pure ⟨Code.quiet_builtin _ (by decide +kernel), codeAny_builtin entry_list_iadd' ?_⟩))
  show wpAny _ _ (Builtin.List.listExtendWith (.ref s.heap.objs.size) (.ref l) (.ref s.heap.objs.size)) _ _ { s with heap := s.heap.push (seqObj "list" #[] 0) }
  unfold Builtin.List.listExtendWith
  refine wpAny_bind (wpAny_typeOf (T := "tuple") ⟨o, hp, hc⟩ ?_)
  have tt : (Value.type "tuple" == Value.type "tuple") = true := by rfl
  rw [if_pos (by rw [tt, Bool.or_true])]
  refine wpAny_bind (listItems_at hp hd ?_)
  refine wpAny_bind (listItems_at (xs := #[]) (n := 0) (Heap.get?_push_size _ rfl) rfl ?_)
  rw [if_neg (by simp)]
  refine wpAny_bind (listUpdate_at (xs := #[]) (n := 0) (Heap.get?_push_size _ rfl) rfl ?_ (Nat.zero_le _) (by show (#[] ++ vs.toArray).size ≤ sizeLine + 1; simp only [Array.size_append, List.size_toArray, List.length_nil]; omega))
  refine wpAny_pure ?_
  show wpAny (model prog w) A (do
      let o ← load s.heap.objs.size
      match o.data with
      | .seq ys _ => pure ys.toList
      | _ => unsupported "internal:collect") Q E { s with heap := (s.heap.push (seqObj "list" #[] 0)).update s.heap.objs.size (Obj.mapSeq (· ++ vs.toArray)) }
  refine wpAny_bind (wpAny_load (get?_update_seq (Heap.get?_push_size _ rfl) _) ?_)
  show wpAny _ _ (pure ((#[] : Array Value) ++ vs.toArray).toList) Q E _
  have e : ((#[] : Array Value) ++ vs.toArray).toList = vs := by simp
  rw [e]
  exact wpAny_pure h
theorem sortedKT {κ : KeyKind} (hO : κ.OneLt) {l : Addr} {vs : List Value} {Q : Value → Shared → Prop} (hl : s.heap.IsTuple l vs.toArray) (h0 : KeysOf κ (pairsOf vs)) (hkk : ∀ v₁ v₂ rest, vs = v₁ :: v₂ :: rest → keyKind' (v₁ :: v₂ :: rest).toArray = pure oneType') (h64 : vs.length < 64)
    (h : ∀ st' : SortSt, (arrOf st').Perm (pairsOf vs) → SortedToK κ (arrOf st') (pairsOf vs).size → Q (.ref (s.heap.objs.size + 1)) { s with heap := sortedAll s.heap vs ((arrOf st').map (·.2)) }) :
    wpAny (model prog w) A (call (.builtin "sorted") [.ref l]) Q E s := by
  have hz : vs.length ≤ sizeLine := by rw [sizeLine_eq]; omega
  refine Calls.call_function_entry kind_sorted plain_sorted entry_sorted (args_sorted1 _) ?_
  unfold Builtin.«sorted»
  refine wpAny_bind (m := checkCount "sorted" 1 1 _) (wpAny_pure ?_)
  refine wpAny_bind (collect_tup hl ?_ hz)
  refine wpAny_bind (wpAny_newList ?_)
  have hs : ((s.heap.push (seqObj "list" #[] 0)).update s.heap.objs.size (Obj.mapSeq (· ++ vs.toArray))).objs.size = s.heap.objs.size + 1 := by
    rw [Heap.size_update, size_push']
  have hL : (((s.heap.push (seqObj "list" #[] 0)).update s.heap.objs.size (Obj.mapSeq (· ++ vs.toArray))).push (seqObj "list" vs.toArray 0)).get? (s.heap.objs.size + 1) = some (seqObj "list" vs.toArray 0) := by
    rw [← hs]; exact Heap.get?_push_size _ rfl
  show wpAny _ _ _ _ _ { s with heap := ((s.heap.push (seqObj "list" #[] 0)).update s.heap.objs.size (Obj.mapSeq (· ++ vs.toArray))).push (seqObj "list" vs.toArray 0) }
  rw [hs]
  refine wpAny_bind (wpAny_holding (wpAny_call_entry slot_list_sort ⟨_, hL, rfl⟩ entry_list_sort (list_sort_treeK hO hL h0 hkk h64 fun st' a1 a2 => ⟨_, rfl, ?_⟩) (args_list_sort _)))
  exact wpAny_pure ⟨_, rfl, h st' a1 a2⟩
theorem sorted_strsT {l : Addr} {vs : List Value} {ss : List Str} {Q : Value → Shared → Prop} (hl : s.heap.IsTuple l vs.toArray) (hS : StrsAre vs ss) (h64 : vs.length < 64)
    (h : ∀ (out : Array Value) (ss' : List Str), StrsAre out.toList ss' → ss'.Perm ss → sortedS ss' = true → Q (.ref (s.heap.objs.size + 1)) { s with heap := sortedAll s.heap vs out }) :
    wpAny (model prog w) A (call (.builtin "sorted") [.ref l]) Q E s := by
  refine sortedKT strKind_oneLt hl hS.keysOf (fun v₁ v₂ rest e => keyKind_strs (by rw [← e]; exact hS)) h64 fun st' hp hs => ?_
  obtain ⟨ss', h1, h2, h3⟩ := sorted_out_str hS hp hs
  exact h _ ss' h1 h2 h3
end
def rSortedT (K : PySem.W.Frag) : List V → Hp → VK → Prop := fun vs H Q => ∃ (a : Addr) (xs : List Str), vs = [V.ref a] ∧ SqT K H a (xs.map V.str) ∧ xs.length < 64 ∧
  ∀ (ys : List Str) (p : Addr), ys.Perm xs → sortedS ys = true → H p = none → Q (.ref p) (upd H p (.lst (ys.map V.str)))
theorem call_sortedT {X : Cx} : CallR X (.builtin "sorted") (rSortedT X.K) := by
  intro pins s σ H vs us Q I r h
  obtain ⟨a, xs, rfl, hs, h64, q⟩ := h
  obtain ⟨its, rv, hl, _⟩ := I.tuple hs
  rw [Vals.ref1 r]
  have hlen0 := rv.length
  rw [List.length_map] at hlen0
  refine sorted_strsT hl rv.strs (by rw [← hlen0]; exact h64) fun out ys h1 h2 h3 => ?_
  obtain ⟨ep, he'⟩ := PyProof.Rows.sortedAll_at s.heap its out
  have hlen : (ys.map V.str).length ≤ sizeLine := by rw [List.length_map, h2.length_eq]; exact small64 h64
  exact ⟨.ref _, upd H (s.heap.objs.size + 1) (.lst (ys.map V.str)), I.laid (t' := s.toks) (fun _ _ => PyProof.Rows.sortedAll_old) (Nat.le_succ _) ⟨hlen, out.toList, ep, vals_of_strs h1, he'⟩, rfl, q ys _ h2 h3 (I.hok.fresh (Nat.le_succ _))⟩
end Lay

set_option Elab.async false
set_option linter.all false
set_option maxRecDepth 100000
set_option maxHeartbeats 4000000
/-! LayZa: a method with own errors where none comes; name = {.. for ..} on one line -/
namespace Lay
open PySem PySem.Spec PyProof.Rows L2
/-- o.m(..) of a method with own errors, where none comes -/
theorem pe_mtN0 {X : Cx} {k j : Nat} {C : Addr} {m : Str} {sp : Sp} {o e : Expr} {es : List Expr} {ta : TE} {t : TA} {apos pos : Pos} {pl : Sem Bool} (c : MetN X.prog X.w X.K X.mg X.base k C m sp) (hr : Room j X.A) (hk : k ≤ j) (he : PE X o ta) (ha : PA X (e :: es) t)
    (hst : starEach (e :: es) X.env = (false, eval e X.env) :: starEach es X.env := by rfl) (hpl : (backTo pos (starEach es X.env)).any (·.1) = false := by rfl)
    (ht : eval (.Call (.Attribute o m apos) (e :: es) [] pos) X.env = (do
      let ov ← eval o X.env
      standAt apos.atName
      let (g, first) ← holding [ov] (getMethod ov m pl)
      callWith pos g first (backTo pos (starEach (e :: es) X.env)) (backToKw pos (keywordEach [] X.env))) := by rfl) :
    PE X (.Call (.Attribute o m apos) (e :: es) [] pos) (tMethN C m sp (fun _ => C8.E0) ta t) := by
  obtain ⟨f, fd, ps, hc, hm, F, b⟩ := c.ex
  refine ⟨fun pins s σ H Q I h => ?_⟩
  refine PySem.W.methodCall_KW (pl := pl) (thn (he.run pins s σ H _ I h) fun u s1 ⟨x, H1, I1, rx, a, dx, fs, ex, ea, l, q⟩ => ?_) ht
  subst ex
  obtain rfl : u = Value.ref a := rx
  refine getmeth_ok I1 ea hc hm l ?_
  refine PySem.W.callWith_K (first := [.ref a]) (h₀ := X.base) I.ok.mod.kin hm.kp (thn (ha.run pos pins s1 σ H1 _ I1 q) fun us s2 ⟨vs, H2, I2, r, q2⟩ => ⟨I2.kIn, ?_⟩) hst hpl
  exact run_fnS (E := fun _ => C8.E0) (us := .ref a :: us) (vs := .ref a :: vs) F (hr.mono hk) b (fun pins H s e s' I c => by
    obtain ⟨_, _, _, _, _, _, _, _, _, _, _, _, z⟩ := c
    exact z.elim) I2 (.cons rfl r) q2
theorem ps_setDc {X : Cx} {i : Nat} {y : Str} {py : Pos} {kx vx tg iter : Expr} {ifs : List Expr} {scope : Scope} {own : List (Str × Nat)} {pos spos : Pos} {wi : TI} {g : TG} {tt : TT} {tk tv : TE} (hc : X.calm = true) (hN : X.N.Nodup) (hy : X.N[i]? = some y) (hyl : X.env.scope.names.lookup y = some .local)
    (hsw : swapsWith (.DictComp kx vx [⟨tg, iter, ifs, 0⟩] scope pos) (some (.Name y py)) spos.line X.env = pure true) (hi : PI X tg iter wi) (ok : BlkOk X.N X.env.scope scope own)
    (hg : ∀ (s : Shared) (H : Hp) (C : Addr) (cl : List (Str × Addr)) (fp : List Addr), PG (X.blk s H scope (compEnvC scope cl C X.env) fp) tg g) (ht : ∀ (s : Shared) (H : Hp) (C : Addr) (cl : List (Str × Addr)) (fp : List Addr), PTs (X.blk s H scope (compEnvC scope cl C X.env) fp) ifs tt)
    (hk : ∀ (s : Shared) (H : Hp) (C : Addr) (cl : List (Str × Addr)) (fp : List Addr), PE (X.blk s H scope (compEnvC scope cl C X.env) fp) kx tk)
    (he : ∀ (s : Shared) (H : Hp) (C : Addr) (cl : List (Str × Addr)) (fp : List Addr), PE (X.blk s H scope (compEnvC scope cl C X.env) fp) vx tv) (hs : ∀ x, foldedSetIterable iter X.env x = pure x := by intro _; rfl) :
    PS X (.Assign [.Name y py] (.DictComp kx vx [⟨tg, iter, ifs, 0⟩] scope pos) spos) (tAsg (tDc wi g tt tk tv (own.map (·.2))) (gName i)) := by
  refine ⟨fun pins s σ H D I h => ?_⟩
  rw [exec_Assign_Name_used _ _ _ _ hsw]
  refine wpAny_bind (wpAny_standAt (wpAny_bind ?_))
  show wpAny _ X.A (do let _ ← comprehension (.DictComp kx vx [⟨tg, iter, ifs, 0⟩] scope pos) scope X.env (firstIterPos [⟨tg, iter, ifs, 0⟩] pos) newDict false (eval iter X.env) (some (assign (.Name y py) X.env))) _ _ s
  have h : tDc wi g tt tk tv (own.map (·.2)) σ H (fun x H1 => gName i x σ H1 D.nx) := h
  refine wpAny_bind (thn (dc_core (Qf := fun _ s' => SP X pins D .next s') hc hN I hi ok hg ht hk he hs h fun L C s' m H' I' q hn f => ?_) fun _ s' hq => wpAny_pure (wpAny_pure hq))
  show wpAny _ _ (assign (.Name y py) X.env (.ref L)) _ _ _
  refine wpAny_assign_Name (store_ok2 (v := V.ref L) I' hN hy (.inl hyl) rfl (fun s2 I2 ⟨a, sb, ha⟩ => ?_) (.inr hyl))
  obtain ⟨f0, f1, f2, f3, f4, f5⟩ := f
  have haC : C ≠ a := by
    rcases ha with z | z
    · rw [z]; exact f1
    · exact fun e => f4 y a z e.symm
  refine ⟨m, hn.sameBut sb haC, fun h3 sb3 => ?_⟩
  exact ⟨_, H', I2.turned (t' := s2.toks) (fun b o hb e => (sb3.2 b hb).trans e) f0 f1 f3 f4 f5, q⟩
theorem sw_trueD {kx vx : Expr} {gs : List Comprehension} {scope : Scope} {pos py : Pos} {y : Str} {l : Nat} {env : Env} (hk : env.scope.kind = .function) (hy : env.scope.names.lookup y = some .local) (hl : (py.line == pos.line) = true)
    (ha : (scope.names.any fun (n, k) => n == y && (k == .local || k == .cell)) = false) : swapsWith (.DictComp kx vx gs scope pos) (some (.Name y py)) l env = pure true := by
  have ky : env.kindOf y = some .local := hy
  have hb : env.blockKind = .function := by unfold Env.blockKind; rw [hk]; rfl
  unfold swapsWith
  simp only [hb, ky, ha, Expr.pos, hl]
  rfl
end Lay

set_option Elab.async false
set_option linter.all false
set_option maxRecDepth 100000
set_option maxHeartbeats 4000000
/-! LayZb: == by an own __eq__ that answers either way -/
namespace Lay
open PySem PySem.Spec PyProof.Rows L2
def rEqOwn (C : Addr) (sp : Sp) : R2 := fun x y H Q => ∃ a b dx dy fs gs, x = .ref a ∧ y = .ref b ∧ H a = some (.ins C dx fs) ∧ H b = some (.ins C dy gs) ∧ sp [.ref a, .ref b] H (fun v H' => ∃ k, v = .bl k ∧ Q (.bl k) H') C8.E0
theorem op_eqOwn {X : Cx} {n : Nat} {C f : Addr} {fd : FuncData} {ps : List Str} {sp : Sp} (F : FnOk X.prog X.w X.K X.mg X.base C8.CX0 n f fd ps sp)
    (hs : PySem.W.findIn X.K (.ref C) "__eq__" = some (some (.ref f))) (hf : PySem.W.isFn X.K (.ref f) = true) (hb : Binds X.K fd ps []) (hr : Room n X.A) : OpR X (compareOp .Eq) (rEqOwn C sp) := by
  intro pins s σ H x y u v Q I rx ry d
  obtain ⟨a, b, dx, dy, fs, gs, rfl, rfl, ha, hb', hsp⟩ := d
  cases rx
  cases ry
  obtain ⟨mA, J, _⟩ := ins_get I.hok ha
  obtain ⟨mB, J', _⟩ := ins_get I.hok hb'
  obtain ⟨od, J, _⟩ := J.look
  obtain ⟨od', J', _⟩ := J'.look
  obtain ⟨m, hF⟩ := I.fr
  refine PySem.W.cmp_K (op := .Eq) (tb := .ref C) hr.units0 hF I.ok.mod.kin J J'.type (by simp [PySem.W.notFirst]) hs hf ?_
  have hl := F.len _ _ _ _ hsp
  have r2 : Vals [V.ref a, V.ref b] [Value.ref a, Value.ref b] := .cons rfl (.cons rfl .nil)
  refine wpAny_call (codeAny_mono (F.run X.A X.stack s H ⟨[.ref a, .ref b], []⟩ [.ref a, .ref b] [.ref a, .ref b] _ C8.E0 hr I.env0 (by
    have := hb s [.ref a, .ref b] I.kIn (by simpa using hl)
    simpa using this) r2 hsp) fun r s' hq => ?_)
  cases r with
  | error e => exact C8.pass0 (E := C8.E0) pins σ H s e s' I hq
  | ok fl =>
    cases fl with
    | ret w =>
      obtain ⟨z, H', I', rz, k, ez, q⟩ := I.after hq
      subst ez
      cases rz
      exact ⟨.bl k, H', I', rfl, q⟩
    | next => exact False.elim hq
    | brk => exact False.elim hq
    | cont => exact False.elim hq
end Lay

set_option Elab.async false
set_option linter.all false
set_option maxRecDepth 100000
set_option maxHeartbeats 0
/-! the top of k22: where its defs and classes stand -/
namespace W22
open PySem PySem.Spec PyProof.Rows L2
def top (i : Nat) : Stmt := PySem.Challenge.pw_waysacross_k22_whole_turns_between.main.body.getD i (.Pass ⟨0, 0, 0, 0⟩)
def defD (x : Str) (i : Nat) : He.DefD := ⟨(x, none), x, x, defArgs (top i), defBody (top i), defScope (top i), [], []⟩
def metD (c x q : Str) (i j : Nat) : He.DefD := ⟨(c, some x), x, q, defArgs (inClass (top i) j), defBody (inClass (top i) j), defScope (inClass (top i) j), [], []⟩
/-- the defs, by their places in the top -/
def fns : List He.DefD := [defD "check_length" 22, defD "words_of" 23, defD "tree_words" 24, defD "is_value" 25, defD "is_name" 26, defD "tree_names" 28, defD "tree_text" 29, defD "tree_halves" 30, defD "right_comb" 31, defD "comb_deeds" 32, defD "exchange_deeds" 33, defD "order_deeds" 34, defD "turned_node" 38, defD "turn_tree" 39, defD "turns_between" 40, defD "_law_bag" 43, defD "_law_draw" 44, defD "_law_of" 45, defD "_law_mix" 46, defD "_law_like" 47, defD "_law_error" 48, defD "_law_try" 49, defD "_law_bad" 50, defD "_law_refused" 51, defD "_law_barred" 52, defD "_law_name" 53, defD "_law_names" 54, defD "_law_tokens" 55, defD "_law_tidy" 56, defD "_law_nested" 57, defD "_law_spell" 58, defD "_law_all" 59, defD "_law_done" 60, defD "_law_put" 61, defD "_law_texts" 62, defD "_law_walked" 63, defD "_law_led" 64, defD "law" 65,
  metD "Tree" "__init__" "Tree.__init__" 41 0, metD "Tree" "halves" "Tree.halves" 41 3, metD "Tree" "__eq__" "Tree.__eq__" 41 5, metD "Tree" "__len__" "Tree.__len__" 41 6, metD "Tree" "__iter__" "Tree.__iter__" 41 7,
  metD "BadTree" "__init__" "BadTree.__init__" 2 0, metD "NoSuch" "__init__" "NoSuch.__init__" 14 0, metD "Unlike" "__init__" "Unlike.__init__" 12 0]
/-- the own exceptions -/
def excs : List Str := ["BadBook", "BadTree", "BadForm", "BadPaper", "BadDrawing", "BadScript", "BadPart", "BadNumber", "BadLot", "NotOne", "Lied", "Unlike", "TooMany", "NoSuch", "Ended"]
def frees : List Str := ["isinstance", "len", "int", "str", "list", "tuple", "dict", "bool", "range", "set", "iter", "sorted", "enumerate", "ValueError", "LookupError", "RuntimeError"]
def fields : List Str := ["leaves", "nodes", "root", "text", "_halves", "_lots", "_above"]
def fas : List He.Fa := (fns.filterMap fun d => if d.at_.2 = none then some (He.Fa.glo d.at_.1) else none) ++ (excs.map fun x => He.Fa.glo x) ++ (frees.map fun x => He.Fa.free x) ++ (fields.map fun x => He.Fa.noat "Tree" x) ++
  [.int "MOST_SIGNS" 8, .int "MOST_TEXT" 200000, .int "MOST_LEAVES" 24, .str "LETTERS" "abcdefghijklmnopqrstuvwxyz", .str "SIGNS" "abcdefghijklmnopqrstuvwxyz0123456789", .glo "RESERVED", .glo "DEEDS", .glo "Tree", .keep "BadTree", .keep "NoSuch", .keep "Unlike", .cls "Tree", .mkr "Tree", .meth "Tree" "halves", .meth "Tree" "__eq__", .meth "Tree" "__len__", .meth "Tree" "__iter__"]
/-- the class at C is an exception's over the base whose maker is n and whose mro is tail, with an own __init__ -/
def oexG (K : PySem.W.Frag) (C : Addr) (n : String) (tail : List Value) : Bool := match K.lookup C with
  | some ⟨.type t, _, .cls cd, sl⟩ => (match cd.mro, sl.toList with
    | .ref C' :: bm, [_, _, _, _, some (.builtin n'), _] => decide (t = "type") && (decide (C' = C) && (decide (n' = n) && (!cd.hasDel && (cd.hasDict && decide (bm = tail)))))
    | _, _ => false)
  | _ => false
/-- what is asked of a class of own errors: its field, what its instances are -/
def excB (K : PySem.W.Frag) (x : Str) (base n : String) (f : Str) : Bool :=
  oexG K (He.ga K x) n [.type base, .type "Exception", .type "BaseException", .type "object"] && (xfB K (He.ga K x) && (decide (PySem.W.findIn K (.ref (He.ga K x)) f = some none) &&
  (decide (PySem.W.findIn K (.ref (He.ga K x)) "__setattr__" = some (some (.builtin "object.__setattr__"))) && (decide (PySem.W.typeIn K (.ref (He.ga K x)) = some (.type "type")) &&
  (decide (PySem.W.findIn K (.ref (He.ga K x)) "__init__" = some (some (.ref (He.fAd K (x, some "__init__"))))) && (decide (PySem.W.typeIn K (.ref (He.fAd K (x, some "__init__"))) = some (.type "function")) &&
  (decide (PySem.W.findIn K (.ref (He.ga K x)) "__class__" = some (some (.builtin "object.__class__"))) && (decide (PySem.W.mroIn K (He.ga K x) (.type "object") = some true) &&
  ((excs.all fun y => decide (PySem.W.exmOne K (.ref (He.ga K x)) (.ref (He.ga K y)) = some (decide (y = x))) && decide (PySem.W.kitOne K (.ref (He.ga K x)) (.ref (He.ga K y)) = some (decide (y = x)))) &&
  (["ValueError", "LookupError", "RuntimeError"] : List String).all fun y => decide (PySem.W.kitOne K (.ref (He.ga K x)) (.type y) = some (decide (y = base))))))))))))
/-- a global's tuple of texts -/
def tupB (K : PySem.W.Frag) (x : Str) (ys : List Str) : Bool := match K.lookup (He.ga K x) with
  | some ⟨.type t, none, .seq its _, _⟩ => decide (t = "tuple") && decide (its.toList.map (fun v => match v with | .str y _ => some y | _ => none) = ys.map some)
  | _ => false
def deeds : List Str := ["swap", "left", "right"]
def reserved : List Str := ["book", "form", "drawing", "tree", "shown", "hidden", "seen", "chance", "table", "over", "of", "node", "pivot", "none", "weight", "looks", "ladder", "lead", "family", "lot", "done", "swap", "left", "right", "as"]
def exB (K : PySem.W.Frag) : Bool :=
  excB K "BadTree" "ValueError" "ValueError.__new__" "why" && (excB K "NoSuch" "LookupError" "LookupError.__new__" "name" && (excB K "Unlike" "ValueError" "ValueError.__new__" "what" &&
  (decide (PySem.W.specialIn K (.builtin "object.__class__") "__get__" = some (some (.builtin "getset_descriptor.__get__"))) && (decide (PySem.W.takesIn K (.builtin "object.__class__") = some true) &&
  (decide (PySem.W.kitOne K (.ref (He.ga K "Tree")) (.ref (He.ga K "Tree")) = some true) && (decide (PySem.W.findIn K (.ref (He.ga K "Tree")) "__class__" = some (some (.builtin "object.__class__"))) && (decide (PySem.W.mroIn K (He.ga K "Tree") (.type "object") = some true) && (tupB K "DEEDS" deeds && (tupB K "RESERVED" reserved && decide (PySem.W.nsIn K cStatics "sys.int_max_str_digits" = some none))))))))))
def tfs : List He.Defn := [("law", none)]
/-! the Hook: what the module's names reach, and the statics -/
def asS (g : Addr → Option Obj) (n : Nat) : List Addr := cStatics :: He.asD g n
def obsS (g : Addr → Option Obj) : He.AlX := (He.obsT fas fns [] (He.frT g (asS g 5)), exB (He.frT g (asS g 5)) && He.tabsB g tfs (He.frT g (asS g 5)))
theorem saysS_of {w : World} {h : Heap} (e : obsS h.get? = He.valX fns [] w) : He.SaysX fas fns [] tfs exB w h (He.frT h.get? (asS h.get? 5)) := by
  have e1 : He.obsT fas fns [] (He.frT h.get? (asS h.get? 5)) = He.valT fns [] w := congrArg (fun z : He.AlX => z.1) e
  have e2 : (exB (He.frT h.get? (asS h.get? 5)) && He.tabsB h.get? tfs (He.frT h.get? (asS h.get? 5))) = true := congrArg (fun z : He.AlX => z.2) e
  obtain ⟨h1, h2⟩ := He.ba e2
  have key : ∀ p ∈ tfs, PySem.W.codeHdIn (He.frT h.get? (asS h.get? 5)) (He.cT (He.frT h.get? (asS h.get? 5)) p).1 (He.cT (He.frT h.get? (asS h.get? 5)) p).2 = true ∧ ∃ o, h.get? (He.cT (He.frT h.get? (asS h.get? 5)) p).2 = some o ∧ He.emptyTab o = true := fun p hp => by
    obtain ⟨h3, h4⟩ := He.ba (List.all_eq_true.mp h2 p hp)
    refine ⟨h3, ?_⟩
    cases q : h.get? (He.cT (He.frT h.get? (asS h.get? 5)) p).2 with
    | none =>
      rw [q] at h4
      cases h4
    | some o =>
      rw [q] at h4
      exact ⟨o, rfl, h4⟩
  exact ⟨e1, h1, fun p hp => (key p hp).1, fun p hp => by
    obtain ⟨_, o, q, z⟩ := key p hp
    exact He.frT_none q z, fun p hp => by
    obtain ⟨_, o, q, z⟩ := key p hp
    rw [q, He.emptyTab_eq z]⟩
def hkS : PySem.W.Hook where
  α := He.AlX
  obs := fun s => obsS s.heap.get?
  val := fun w => He.valX fns [] w
  says := fun w h => ∃ K : PySem.W.Frag, K.In h ∧ He.SaysX fas fns [] tfs exB w h K
  of := fun _ _ e => ⟨_, He.frT_in, saysS_of e⟩
  keeps := fun _ _ _ ⟨K, hK, c⟩ k => ⟨K, PySem.W.Frag.In.keeps hK k, ⟨c.t, c.more, c.hd, c.out, fun p hp => k _ _ (c.empty p hp)⟩⟩
abbrev R : PySem.W.OpenRow := PySem.W.OpenLaw.row PySem.Challenge.rw_waysacross_k22_whole_turns_between
def ob (s : PySem.W.SharedT) : He.AlX := obsS (HandSHeadRun.getT s)
theorem ob_eq (s : PySem.W.SharedT) : ob s = hkS.obs s.abs := by
  show obsS (HandSHeadRun.getT s) = obsS s.abs.heap.get?
  rw [show HandSHeadRun.getT s = s.abs.heap.get? from funext (HandSHeadRun.getT_eq s)]
def loose1 : List Str := ["__name__", "BadBook", "BadTree", "BadForm", "BadPaper", "BadDrawing", "BadScript", "BadPart", "BadNumber", "BadLot", "NotOne", "Lied", "Unlike", "TooMany", "NoSuch", "Ended", "RESERVED", "LETTERS", "SIGNS", "MOST_SIGNS", "MOST_TEXT", "MOST_LEAVES", "DEEDS", "check_length", "words_of", "tree_words", "is_value"]
def loose2 : List Str := ["is_name", "tree_names", "tree_text", "tree_halves", "right_comb", "comb_deeds", "exchange_deeds", "order_deeds", "turned_node", "turn_tree", "turns_between", "_law_bag", "_law_draw", "_law_of", "_law_mix", "_law_like", "_law_error", "_law_try"]
def loose3 : List Str := ["_law_bad", "_law_refused", "_law_barred", "_law_name", "_law_names", "_law_tokens", "_law_tidy", "_law_nested", "_law_spell", "_law_all", "_law_done", "_law_put", "_law_texts", "_law_walked", "_law_led", "Tree"]
def loose : List Str := loose1 ++ loose2 ++ loose3
end W22

set_option Elab.async false
set_option linter.all false
set_option maxRecDepth 100000
set_option maxHeartbeats 0
/-! Run22: the head runs -/
namespace W22
open PySem PySem.Spec PyProof.Rows L2
theorem run (w : World) : HandSHeadRun.RunEq R (PySem.W.view R.prog [65]) hkS ob 9000 loose w := by
  intro os
  kernel_rfl
end W22

set_option Elab.async false
set_option linter.all false
/-! P22: trees, their texts and words, in plain Lean -/
namespace P22
abbrev Wd := List Nat
inductive Tr where
  | leaf (w : Wd)
  | node (l r : Tr)
  deriving DecidableEq
open Tr
def spell : Tr → List Nat
  | leaf w => w
  | node l r => 40 :: (spell l ++ 32 :: (spell r ++ [41]))
def toks : Tr → List Wd
  | leaf w => [w]
  | node l r => [40] :: (toks l ++ (toks r ++ [[41]]))
def leaves : Tr → List Wd
  | leaf w => [w]
  | node l r => leaves l ++ leaves r
/-- all nodes, the halves ahead of the whole -/
def nodes : Tr → List Tr
  | leaf w => [leaf w]
  | node l r => nodes l ++ nodes r ++ [node l r]
/-- signs of names: no space, no bracket -/
def Sign (c : Nat) : Prop := c ≠ 32 ∧ c ≠ 40 ∧ c ≠ 41
structure Name (w : Wd) : Prop where
  ne : w ≠ []
  signs : ∀ c ∈ w, Sign c
/-- all names of the tree are names -/
def Ok (t : Tr) : Prop := ∀ w ∈ leaves t, Name w
theorem Ok.l {l r : Tr} (h : Ok (node l r)) : Ok l := fun w hw => h w (List.mem_append_left _ hw)
theorem Ok.r {l r : Tr} (h : Ok (node l r)) : Ok r := fun w hw => h w (List.mem_append_right _ hw)
theorem Ok.node {l r : Tr} (h : Ok l) (k : Ok r) : Ok (node l r) := fun w hw => (List.mem_append.mp hw).elim (h w) (k w)
theorem Ok.name {w : Wd} (h : Ok (leaf w)) : Name w := h w (List.mem_singleton.mpr rfl)
/-- the rest begins with a space or a bracket, or there is none -/
def Stops (x : List Nat) : Prop := ∀ c ∈ x.head?, ¬ Sign c
theorem stop32 {x : List Nat} : Stops (32 :: x) := fun c hc => by
  cases hc
  exact fun h => h.1 rfl
theorem stop41 {x : List Nat} : Stops (41 :: x) := fun c hc => by
  cases hc
  exact fun h => h.2.2 rfl
theorem word_eq : ∀ {w v x y : List Nat}, (∀ c ∈ w, Sign c) → (∀ c ∈ v, Sign c) → Stops x → Stops y → w ++ x = v ++ y → w = v ∧ x = y
  | [], [], _, _, _, _, _, _, h => ⟨rfl, h⟩
  | [], c :: v, x, y, _, hv, hx, _, h => by
    have h : x = c :: (v ++ y) := h
    exact absurd (hv c List.mem_cons_self) (hx c (by rw [h]; rfl))
  | c :: w, [], x, y, hw, _, _, hy, h => by
    have h : c :: (w ++ x) = y := h
    exact absurd (hw c List.mem_cons_self) (hy c (by rw [← h]; rfl))
  | c :: w, d :: v, x, y, hw, hv, hx, hy, h => by
    obtain ⟨rfl, h1⟩ := List.cons.inj (show c :: (w ++ x) = d :: (v ++ y) from h)
    obtain ⟨rfl, rfl⟩ := word_eq (fun c hc => hw c (List.mem_cons_of_mem _ hc)) (fun c hc => hv c (List.mem_cons_of_mem _ hc)) hx hy h1
    exact ⟨rfl, rfl⟩
/-- a tree's text is read off the front in one way -/
theorem spell_front : ∀ {a b : Tr} {x y : List Nat}, Ok a → Ok b → (Stops x ∨ ∃ l r, a = node l r) → (Stops y ∨ ∃ l r, b = node l r) → spell a ++ x = spell b ++ y → a = b ∧ x = y
  | leaf w, leaf v, x, y, ha, hb, hx, hy, h => by
    have hx : Stops x := hx.elim id fun ⟨_, _, z⟩ => by cases z
    have hy : Stops y := hy.elim id fun ⟨_, _, z⟩ => by cases z
    obtain ⟨rfl, rfl⟩ := word_eq ha.name.signs hb.name.signs hx hy h
    exact ⟨rfl, rfl⟩
  | leaf w, node l r, x, y, ha, hb, hx, hy, h => by
    have n := ha.name
    cases w with
    | nil => exact absurd rfl n.ne
    | cons c w =>
      have e : c = 40 := (List.cons.inj (show c :: (w ++ x) = 40 :: _ from h)).1
      exact absurd e (n.signs c List.mem_cons_self).2.1
  | node l r, leaf w, x, y, ha, hb, hx, hy, h => by
    have n := hb.name
    cases w with
    | nil => exact absurd rfl n.ne
    | cons c w =>
      have e : 40 = c := (List.cons.inj (show 40 :: _ = c :: (w ++ y) from h)).1
      exact absurd e.symm (n.signs c List.mem_cons_self).2.1
  | node l r, node l' r', x, y, ha, hb, hx, hy, h => by
    have h : 40 :: (spell l ++ 32 :: (spell r ++ [41])) ++ x = 40 :: (spell l' ++ 32 :: (spell r' ++ [41])) ++ y := h
    have h1 : spell l ++ (32 :: (spell r ++ (41 :: x))) = spell l' ++ (32 :: (spell r' ++ (41 :: y))) := by
      simpa using h
    obtain ⟨rfl, h2⟩ := spell_front ha.l hb.l (.inl stop32) (.inl stop32) h1
    have h3 : spell r ++ (41 :: x) = spell r' ++ (41 :: y) := (List.cons.inj h2).2
    obtain ⟨rfl, h4⟩ := spell_front ha.r hb.r (.inl stop41) (.inl stop41) h3
    exact ⟨rfl, (List.cons.inj h4).2⟩
theorem stop_nil : Stops [] := fun c hc => by cases hc
theorem spell_inj {a b : Tr} (ha : Ok a) (hb : Ok b) (h : spell a = spell b) : a = b :=
  (spell_front (x := []) (y := []) ha hb (.inl stop_nil) (.inl stop_nil) (by rw [h])).1
/-- where the text of a pair begins within a tree's text, there it ends, too -/
theorem inside {a b : Tr} (hn : Ok (node a b)) : ∀ {t : Tr} {Z p q : List Nat}, Ok t → spell t ++ Z = p ++ (spell (node a b) ++ q) → p.length < (spell t).length → ∃ q', q = q' ++ Z ∧ spell t = p ++ (spell (node a b) ++ q')
  | leaf w, Z, p, q, ht, h, hl => by
    have hl : p.length < w.length := hl
    have e := congrArg (fun l => l[p.length]?) h
    have e1 : (w ++ Z)[p.length]? = some (w[p.length]'hl) := by rw [List.getElem?_append_left hl, List.getElem?_eq_getElem hl]
    have e2 : (p ++ (spell (node a b) ++ q))[p.length]? = some 40 := by
      rw [List.getElem?_append_right (Nat.le_refl _), Nat.sub_self]
      rfl
    have e3 : some (w[p.length]'hl) = some 40 := e1.symm.trans (e.trans e2)
    exact absurd (Option.some.inj e3) (ht.name.signs _ (List.getElem_mem hl)).2.1
  | node l r, Z, [], q, ht, h, _ => by
    obtain ⟨e, rfl⟩ := spell_front (x := Z) (y := q) ht hn (.inr ⟨_, _, rfl⟩) (.inr ⟨_, _, rfl⟩) h
    exact ⟨[], rfl, by rw [e]; simp⟩
  | node l r, Z, c :: p, q, ht, h, hl => by
    have h : 40 :: (spell l ++ 32 :: (spell r ++ [41])) ++ Z = c :: (p ++ (spell (node a b) ++ q)) := h
    have h0 : 40 :: (spell l ++ (32 :: (spell r ++ (41 :: Z)))) = c :: (p ++ (spell (node a b) ++ q)) := by simpa using h
    obtain ⟨rfl, h1⟩ := List.cons.inj h0
    have hl : p.length < (spell l ++ 32 :: (spell r ++ [41])).length := Nat.lt_of_succ_lt_succ hl
    have at40 : ∀ {u v p : List Nat} {d : Nat}, d ≠ 40 → u ++ d :: v = p ++ (spell (node a b) ++ q) → p.length ≠ u.length := fun {u v p d} nd e z => by
      have e1 := congrArg (fun l => l[u.length]?) e
      have e2 : (u ++ d :: v)[u.length]? = some d := by
        rw [List.getElem?_append_right (Nat.le_refl _), Nat.sub_self]
        rfl
      have e3 : (p ++ (spell (node a b) ++ q))[u.length]? = some 40 := by
        rw [← z, List.getElem?_append_right (Nat.le_refl _), Nat.sub_self]
        rfl
      exact nd (Option.some.inj (e2.symm.trans (e1.trans e3)))
    by_cases c1 : p.length < (spell l).length
    · obtain ⟨q', rfl, e⟩ := inside hn ht.l h1 c1
      refine ⟨q' ++ (32 :: (spell r ++ [41])), by simp, ?_⟩
      show 40 :: (spell l ++ 32 :: (spell r ++ [41])) = _
      rw [e]
      simp
    · have c2 := at40 (by decide) h1
      obtain ⟨p2, rfl⟩ : ∃ p2, p = spell l ++ p2 := by
        have pe : p = (spell l ++ (32 :: (spell r ++ (41 :: Z)))).take p.length := by rw [h1, List.take_left]
        rw [List.take_append] at pe
        rw [List.take_of_length_le (by omega)] at pe
        exact ⟨_, pe⟩
      rw [List.append_assoc, List.append_cancel_left_eq] at h1
      cases p2 with
      | nil => simp at c2
      | cons d p2 =>
        obtain ⟨rfl, h2⟩ := List.cons.inj (show 32 :: (spell r ++ (41 :: Z)) = d :: (p2 ++ (spell (node a b) ++ q)) from h1)
        have hl : p2.length < (spell r ++ [41]).length := by
          simp only [List.length_append, List.length_cons, List.length_nil] at hl ⊢
          omega
        have c3 := at40 (by decide) h2
        have c4 : p2.length < (spell r).length := by
          simp only [List.length_append, List.length_cons, List.length_nil] at hl
          omega
        obtain ⟨q', rfl, e⟩ := inside hn ht.r h2 c4
        refine ⟨q' ++ [41], by simp, ?_⟩
        show 40 :: (spell l ++ 32 :: (spell r ++ [41])) = _
        rw [e]
        simp
/-- old, wherever it stands, by new -/
def put (old new : Tr) : Tr → Tr
  | leaf w => if leaf w = old then new else leaf w
  | node l r => if node l r = old then new else node (put old new l) (put old new r)
theorem mem_leaves : ∀ {t n : Tr}, n ∈ nodes t → ∀ w ∈ leaves n, w ∈ leaves t
  | leaf w, n, h, v, hv => by
    rw [List.mem_singleton.mp h] at hv
    exact hv
  | node l r, n, h, v, hv => by
    rcases List.mem_append.mp h with h | h
    · rcases List.mem_append.mp h with h | h
      · exact List.mem_append_left _ (mem_leaves h v hv)
      · exact List.mem_append_right _ (mem_leaves h v hv)
    · rw [List.mem_singleton.mp h] at hv
      exact hv
theorem leaves_pos : ∀ t : Tr, leaves t ≠ []
  | leaf w => by simp [leaves]
  | node l r => by
    have := leaves_pos l
    simp [leaves, this]
/-- a tree without the old one stays -/
theorem put_id {old new : Tr} : ∀ {t : Tr}, old ∉ nodes t → put old new t = t
  | leaf w, h => by
    rw [put, if_neg fun e => h (by rw [← e]; exact List.mem_singleton.mpr rfl)]
  | node l r, h => by
    rw [put, if_neg fun e => h (by rw [← e]; exact List.mem_append_right _ (List.mem_singleton.mpr rfl)), put_id fun z => h (List.mem_append_left _ (List.mem_append_left _ z)), put_id fun z => h (List.mem_append_left _ (List.mem_append_right _ z))]
theorem not_both {l r n : Tr} (hd : (leaves l ++ leaves r).Nodup) (h1 : n ∈ nodes l) (h2 : n ∈ nodes r) : False := by
  obtain ⟨w, hw⟩ := List.exists_mem_of_ne_nil _ (leaves_pos n)
  exact (List.nodup_append.mp hd).2.2 w (mem_leaves h1 w hw) w (mem_leaves h2 w hw) rfl
/-- the text of the pair by another text, where it stands: the tree with the pair by the other one -/
theorem spell_put {a b new : Tr} (hn : Ok (node a b)) : ∀ {t : Tr} {p q : List Nat}, Ok t → (leaves t).Nodup → spell t = p ++ (spell (node a b) ++ q) → node a b ∈ nodes t ∧ spell (put (node a b) new t) = p ++ (spell new ++ q)
  | leaf w, p, q, ht, hd, h => by
    have hl : p.length < w.length := by
      have := congrArg List.length h
      simp only [spell, List.length_append, List.length_cons] at this
      omega
    obtain ⟨q', _, e⟩ := inside hn (t := leaf w) (Z := []) ht (by rw [List.append_nil]; exact h) hl
    have m : (40 : Nat) ∈ w := by
      have e : w = _ := e
      rw [e]
      simp [spell]
    exact absurd rfl (ht.name.signs _ m).2.1
  | node l r, [], q, ht, hd, h => by
    obtain ⟨e, e2⟩ := spell_front (x := []) (y := q) ht hn (.inr ⟨_, _, rfl⟩) (.inr ⟨_, _, rfl⟩) (by rw [List.append_nil]; exact h)
    subst e2
    rw [← e]
    refine ⟨List.mem_append_right _ (List.mem_singleton.mpr rfl), ?_⟩
    rw [put, if_pos rfl]
    simp
  | node l r, c :: p, q, ht, hd, h => by
    have h0 : 40 :: (spell l ++ (32 :: (spell r ++ [41]))) = c :: (p ++ (spell (node a b) ++ q)) := h
    obtain ⟨rfl, h1⟩ := List.cons.inj h0
    have hdl : (leaves l).Nodup := (List.nodup_append.mp hd).1
    have hdr : (leaves r).Nodup := (List.nodup_append.mp hd).2.1
    have ne : node l r ≠ node a b := fun e => by
      have := congrArg List.length h
      rw [e] at this
      simp only [List.length_append, List.length_cons] at this
      omega
    have hlen := congrArg List.length h1
    have snl : (spell (node a b)).length = (spell a).length + (spell b).length + 3 := by
      simp only [spell, List.length_append, List.length_cons, List.length_nil]
      omega
    simp only [List.length_append, List.length_cons, List.length_nil] at hlen
    rw [snl] at hlen
    by_cases c1 : p.length < (spell l).length
    · obtain ⟨q', rfl, e⟩ := inside hn ht.l h1 c1
      obtain ⟨m, ih⟩ := spell_put hn ht.l hdl e
      refine ⟨List.mem_append_left _ (List.mem_append_left _ m), ?_⟩
      rw [put, if_neg ne, put_id (t := r) fun z => not_both hd m z]
      show 40 :: (spell (put (node a b) new l) ++ 32 :: (spell r ++ [41])) = _
      rw [ih]
      simp
    · obtain ⟨p2, rfl⟩ : ∃ p2, p = spell l ++ p2 := by
        have pe : p = (spell l ++ (32 :: (spell r ++ [41]))).take p.length := by rw [h1, List.take_left]
        rw [List.take_append] at pe
        rw [List.take_of_length_le (by omega)] at pe
        exact ⟨_, pe⟩
      rw [List.append_assoc, List.append_cancel_left_eq] at h1
      cases p2 with
      | nil => exact absurd (List.cons.inj (show 32 :: (spell r ++ [41]) = 40 :: _ from h1)).1 (by decide)
      | cons d p2 =>
        obtain ⟨rfl, h2⟩ := List.cons.inj (show 32 :: (spell r ++ [41]) = d :: (p2 ++ (spell (node a b) ++ q)) from h1)
        have hl2 := congrArg List.length h2
        simp only [List.length_append, List.length_cons, List.length_nil] at hl2
        rw [snl] at hl2
        obtain ⟨q', rfl, e⟩ := inside hn ht.r h2 (by omega)
        obtain ⟨m, ih⟩ := spell_put hn ht.r hdr e
        refine ⟨List.mem_append_left _ (List.mem_append_right _ m), ?_⟩
        rw [put, if_neg ne, put_id (t := l) fun z => not_both hd z m]
        show 40 :: (spell l ++ 32 :: (spell (put (node a b) new r) ++ [41])) = _
        rw [ih]
        simp
/-- a node's text stands in the tree's -/
theorem spell_in : ∀ {t n : Tr}, n ∈ nodes t → ∃ p q, spell t = p ++ (spell n ++ q)
  | leaf w, n, h => by
    rw [List.mem_singleton.mp h]
    exact ⟨[], [], by simp⟩
  | node l r, n, h => by
    rcases List.mem_append.mp h with h | h
    · rcases List.mem_append.mp h with h | h
      · obtain ⟨p, q, e⟩ := spell_in h
        exact ⟨40 :: p, q ++ 32 :: (spell r ++ [41]), by rw [spell, e]; simp⟩
      · obtain ⟨p, q, e⟩ := spell_in h
        exact ⟨40 :: (spell l ++ 32 :: p), q ++ [41], by rw [spell, e]; simp⟩
    · rw [List.mem_singleton.mp h]
      exact ⟨[], [], by simp⟩
end P22

set_option Elab.async false
set_option linter.all false
/-! Q22: texts into words and back, in plain Lean -/
namespace P22
open Tr PySem PyProof.Rows L2
/-- words of a text: the words that end before, the word at its end -/
def fl (a : Wd) : List Wd := if a = [] then [] else [a]
def step (s : List Wd × Wd) (c : Nat) : List Wd × Wd := if c = 32 then (s.1 ++ fl s.2, []) else if c = 40 ∨ c = 41 then (s.1 ++ fl s.2 ++ [[c]], []) else (s.1, s.2 ++ [c])
def cutAt (s : List Wd × Wd) (c : Nat) : List Wd × Wd := if c = 32 then (s.1 ++ fl s.2, []) else (s.1, s.2 ++ [c])
def run (s : List Wd × Wd) (x : List Nat) : List Wd × Wd := x.foldl step s
def fin (s : List Wd × Wd) : List Wd := s.1 ++ fl s.2
def words (x : List Nat) : List Wd := fin (run ([], []) x)
theorem run_app (s : List Wd × Wd) (x y : List Nat) : run s (x ++ y) = run (run s x) y := List.foldl_append
theorem fl_ne {a : Wd} (h : a ≠ []) : fl a = [a] := if_neg h
theorem fl_nil : fl [] = [] := rfl
theorem run_signs {o : List Wd} : ∀ {w a : Wd}, (∀ c ∈ w, Sign c) → run (o, a) w = (o, a ++ w)
  | [], a, _ => by simp [run]
  | c :: w, a, h => by
    have hc := h c List.mem_cons_self
    have e : step (o, a) c = (o, a ++ [c]) := by
      unfold step
      rw [if_neg hc.1, if_neg (fun z => z.elim hc.2.1 hc.2.2)]
    show run (step (o, a) c) w = _
    rw [e, run_signs fun d hd => h d (List.mem_cons_of_mem _ hd)]
    simp
theorem run_name {w : Wd} {o : List Wd} (h : Name w) : run (o, []) w = (o, w) := by
  rw [run_signs h.signs, List.nil_append]
theorem run_space {o : List Wd} {a : Wd} {x : List Nat} : run (o, a) (32 :: x) = run (o ++ fl a, []) x := rfl
theorem run_40 {o : List Wd} {a : Wd} {x : List Nat} : run (o, a) (40 :: x) = run (o ++ fl a ++ [[40]], []) x := rfl
theorem run_41 {o : List Wd} {a : Wd} {x : List Nat} : run (o, a) (41 :: x) = run (o ++ fl a ++ [[41]], []) x := rfl
/-- a tree's text, read from between two words on -/
theorem run_spell : ∀ {t : Tr} {o : List Wd}, Ok t → ∃ o' a, run (o, []) (spell t) = (o', a) ∧ o' ++ fl a = o ++ toks t
  | leaf w, o, h => ⟨o, w, run_name h.name, by rw [fl_ne h.name.ne, toks]⟩
  | node l r, o, h => by
    obtain ⟨o1, a1, e1, h1⟩ := run_spell (o := o ++ [[40]]) h.l
    obtain ⟨o2, a2, e2, h2⟩ := run_spell (o := o1 ++ fl a1) h.r
    refine ⟨o ++ toks (node l r), [], ?_, by rw [fl_nil, List.append_nil]⟩
    show run (o, []) (40 :: (spell l ++ 32 :: (spell r ++ [41]))) = _
    rw [run_40, fl_nil, List.append_nil, run_app, e1, run_space, run_app, e2, run_41, h2, h1, toks]
    show (o ++ [[40]] ++ toks l ++ toks r ++ [[41]], []) = _
    simp
theorem words_spell {t : Tr} (h : Ok t) : words (spell t) = toks t := by
  obtain ⟨o, a, e, h2⟩ := run_spell (o := []) h
  unfold words
  rw [e]
  exact h2
/-! ### as the program does it -/
def ne (w : Wd) : Bool := decide (w ≠ [])
theorem filter_one (a : Wd) : [a].filter ne = fl a := by
  by_cases h : a = [] <;> simp [ne, fl, h]
theorem spl_cut : ∀ (x : List Nat) (o : List Wd) (a : Wd), fin (x.foldl cutAt (o, a)) = o ++ (TL.spl [32] 0 a x).filter ne
  | [], o, a => by
    rw [show TL.spl [32] 0 a [] = [a] from rfl, filter_one]
    rfl
  | c :: r, o, a => by
    by_cases h : c = 32
    · subst h
      have e : TL.pre [32] (32 :: r) = true := rfl
      rw [TL.spl_hit e]
      show fin (r.foldl cutAt (o ++ fl a, [])) = _
      rw [spl_cut r, show TL.spl [32] ([32].length - 1) [] r = TL.spl [32] 0 [] r from rfl]
      have e2 : (a :: TL.spl [32] 0 [] r).filter ne = fl a ++ (TL.spl [32] 0 [] r).filter ne := by
        have := List.filter_append (p := ne) [a] (TL.spl [32] 0 [] r)
        rw [filter_one] at this
        exact this
      rw [e2, List.append_assoc]
    · have e : TL.pre [32] (c :: r) = false := by
        unfold TL.pre
        rw [List.length_singleton, List.take_succ_cons, List.take_zero]
        exact beq_eq_false_iff_ne.mpr fun z => h (List.cons.inj z).1
      have e2 : cutAt (o, a) c = (o, a ++ [c]) := if_neg h
      show fin (r.foldl cutAt (cutAt (o, a) c)) = _
      rw [e2, spl_cut r]
      have e3 : TL.spl [32] 0 a (c :: r) = TL.spl [32] 0 (a ++ [c]) r := by
        show (if TL.pre [32] (c :: r) = true then a :: TL.spl [32] ([32].length - 1) [] r else TL.spl [32] 0 (a ++ [c]) r) = _
        rw [if_neg (by rw [e]; decide)]
      rw [e3]
/-- one sign by a text -/
def sub (c : Nat) (z : List Nat) (x : List Nat) : List Nat := x.flatMap fun d => if d = c then z else [d]
theorem repl_sub (c : Nat) (z : List Nat) : ∀ x : List Nat, StrLaws.replL [c] z x = sub c z x
  | [] => StrLaws.replL_nil
  | d :: r => by
    by_cases h : d = c
    · subst h
      rw [StrLaws.replL_hit (by simp) rfl]
      show z ++ StrLaws.replL [d] z r = _
      rw [repl_sub d z r]
      simp [sub]
    · have mi : ¬ (d :: r).take [c].length = [c] := fun e => h (List.cons.inj (show d :: r.take 0 = [c] from e)).1
      rw [StrLaws.replL_miss mi, repl_sub c z r]
      simp [sub, h]
theorem foldl_sub {α : Type} (f : α → Nat → α) (c : Nat) (z : List Nat) : ∀ (x : List Nat) (s : α), (sub c z x).foldl f s = x.foldl (fun s d => if d = c then z.foldl f s else f s d) s
  | [], _ => rfl
  | d :: r, s => by
    show (((fun d => if d = c then z else [d]) d) ++ sub c z r).foldl f s = _
    rw [List.foldl_append, foldl_sub f c z r]
    show _ = r.foldl _ (if d = c then z.foldl f s else f s d)
    congr 1
    by_cases h : d = c <;> simp [h]
theorem prog_words (x : List Nat) : (TL.spl [32] 0 [] (StrLaws.replL [41] [32, 41, 32] (StrLaws.replL [40] [32, 40, 32] x))).filter ne = words x := by
  rw [repl_sub, repl_sub]
  have h := spl_cut (sub 41 [32, 41, 32] (sub 40 [32, 40, 32] x)) [] []
  rw [List.nil_append] at h
  rw [← h, foldl_sub, foldl_sub]
  unfold words run
  congr 2
  funext s d
  have f0 : ∀ s : List Wd × Wd, cutAt s 32 = (s.1 ++ fl s.2, []) := fun s => rfl
  by_cases h1 : d = 40
  · subst h1
    simp [step, cutAt, fl]
  · by_cases h2 : d = 41
    · subst h2
      simp [step, cutAt, fl]
    · simp [step, cutAt, h1, h2]
end P22

set_option Elab.async false
set_option linter.all false
/-! R22: the program's three machines on words: tree_text, tree_names, tree_halves -/
namespace P22
open Tr
/-- no bracket -/
def Plain (w : Wd) : Prop := w ≠ [40] ∧ w ≠ [41]
theorem Name.plain {w : Wd} (n : Name w) : Plain w := ⟨fun e => by
  have := n.signs 40 (by rw [e]; exact List.mem_singleton.mpr rfl)
  exact this.2.1 rfl, fun e => by
  have := n.signs 41 (by rw [e]; exact List.mem_singleton.mpr rfl)
  exact this.2.2 rfl⟩
/-! tree_text -/
def wr (s : List Nat × Wd) (w : Wd) : List Nat × Wd := (s.1 ++ (if w ≠ [41] ∧ s.2 ≠ [40] then [32] else []) ++ w, w)
theorem wr_toks : ∀ {t : Tr} {o : List Nat} {w : Wd}, Ok t → ∃ v, v ≠ [40] ∧ (toks t).foldl wr (o, w) = (o ++ (if w ≠ [40] then [32] else []) ++ spell t, v)
  | leaf u, o, w, h => ⟨u, h.name.plain.1, by simp [toks, wr, spell, h.name.plain.2]⟩
  | node l r, o, w, h => by
    obtain ⟨v1, n1, e1⟩ := wr_toks (o := o ++ (if w ≠ [40] then [32] else []) ++ [40]) (w := [40]) h.l
    obtain ⟨v2, n2, e2⟩ := wr_toks (o := o ++ (if w ≠ [40] then [32] else []) ++ [40] ++ spell l) (w := v1) h.r
    refine ⟨[41], by decide, ?_⟩
    have e0 : wr (o, w) [40] = (o ++ (if w ≠ [40] then [32] else []) ++ [40], [40]) := by simp [wr]
    have e1' : (toks l).foldl wr (o ++ (if w ≠ [40] then [32] else []) ++ [40], [40]) = (o ++ (if w ≠ [40] then [32] else []) ++ [40] ++ spell l, v1) := by
      rw [e1, if_neg (fun z : ([40] : Wd) ≠ [40] => z rfl), List.append_nil]
    rw [if_pos n1] at e2
    rw [toks, List.foldl_cons, e0, List.foldl_append, e1', List.foldl_append, e2]
    simp [wr, spell]
theorem text_toks {t : Tr} (h : Ok t) : ((toks t).foldl wr ([], [40])).1 = spell t := by
  obtain ⟨v, _, e⟩ := wr_toks (o := []) (w := [40]) h
  rw [e]
  simp
/-! tree_names: the names, the stack of halves counted (the last one last), whether the tree is ended; none: no tree -/
structure NS where
  names : List Wd
  halves : List Nat
  ended : Bool
/-- a half more on the last open pair -/
def bump : List Nat → List Nat
  | [] => []
  | [h] => [h + 1]
  | h :: k :: r => h :: bump (k :: r)
theorem bump_snoc : ∀ (xs : List Nat) (h : Nat), bump (xs ++ [h]) = xs ++ [h + 1]
  | [], h => rfl
  | [a], h => rfl
  | a :: b :: r, h => by
    show a :: bump (b :: (r ++ [h])) = _
    have := bump_snoc (b :: r) h
    rw [show b :: r ++ [h] = b :: (r ++ [h]) from rfl] at this
    rw [this]
    rfl
def close (names : List Wd) (halves : List Nat) : NS := if halves = [] then ⟨names, [], true⟩ else ⟨names, bump halves, false⟩
def nm (P : Wd → Bool) (s : NS) (w : Wd) : Option NS :=
  if s.ended then none
  else if w = [40] then some ⟨s.names, s.halves ++ [0], false⟩
  else if w ≠ [41] then (if P w then some (close (s.names ++ [w]) s.halves) else none)
  else if s.halves.getLast? = some 2 then some (close s.names s.halves.dropLast) else none
def nmAll (P : Wd → Bool) : List Wd → NS → Option NS
  | [], s => some s
  | w :: r, s => match nm P s w with
    | none => none
    | some s' => nmAll P r s'
theorem nm_app {P : Wd → Bool} : ∀ (x y : List Wd) (s : NS), nmAll P (x ++ y) s = (match nmAll P x s with | none => none | some s' => nmAll P y s')
  | [], y, s => rfl
  | w :: r, y, s => by
    show (match nm P s w with | none => none | some s' => nmAll P (r ++ y) s') = _
    show _ = (match (match nm P s w with | none => none | some s' => nmAll P r s') with | none => none | some s' => nmAll P y s')
    cases nm P s w with
    | none => rfl
    | some s' => exact nm_app r y s'
/-- all names are names by P -/
def Good (P : Wd → Bool) (t : Tr) : Prop := ∀ w ∈ leaves t, P w = true ∧ Name w
theorem Good.ok {P : Wd → Bool} {t : Tr} (h : Good P t) : Ok t := fun w hw => (h w hw).2
theorem Good.l {P : Wd → Bool} {l r : Tr} (h : Good P (node l r)) : Good P l := fun w hw => h w (List.mem_append_left _ hw)
theorem Good.r {P : Wd → Bool} {l r : Tr} (h : Good P (node l r)) : Good P r := fun w hw => h w (List.mem_append_right _ hw)
theorem close_open (ns : List Wd) (xs : List Nat) (h : Nat) : close ns (xs ++ [h]) = ⟨ns, xs ++ [h + 1], false⟩ := by
  rw [close, if_neg (by simp), bump_snoc]
theorem nm_toks {P : Wd → Bool} : ∀ {t : Tr} {ns : List Wd} {xs : List Nat}, Good P t → nmAll P (toks t) ⟨ns, xs, false⟩ = some (close (ns ++ leaves t) xs)
  | leaf w, ns, xs, h => by
    have g := h w (List.mem_singleton.mpr rfl)
    show (match nm P ⟨ns, xs, false⟩ w with | none => none | some s' => some s') = _
    have e : nm P ⟨ns, xs, false⟩ w = some (close (ns ++ [w]) xs) := by
      unfold nm
      rw [if_neg Bool.false_ne_true, if_neg g.2.plain.1, if_pos g.2.plain.2, if_pos g.1]
    rw [e]
    rfl
  | node l r, ns, xs, h => by
    show (match nm P ⟨ns, xs, false⟩ [40] with | none => none | some s' => nmAll P (toks l ++ (toks r ++ [[41]])) s') = _
    have e0 : nm P ⟨ns, xs, false⟩ [40] = some ⟨ns, xs ++ [0], false⟩ := rfl
    have e1 := nm_toks (ns := ns) (xs := xs ++ [0]) h.l
    rw [close_open] at e1
    have e2 := nm_toks (ns := ns ++ leaves l) (xs := xs ++ [1]) h.r
    rw [close_open] at e2
    rw [e0]
    show nmAll P (toks l ++ (toks r ++ [[41]])) _ = _
    rw [nm_app, e1]
    show nmAll P (toks r ++ [[41]]) _ = _
    rw [nm_app, e2]
    show (match nm P ⟨ns ++ leaves l ++ leaves r, xs ++ [2], false⟩ [41] with | none => none | some s' => some s') = _
    have e3 : nm P ⟨ns ++ leaves l ++ leaves r, xs ++ [2], false⟩ [41] = some (close (ns ++ leaves l ++ leaves r) xs) := by
      unfold nm
      rw [if_neg Bool.false_ne_true, if_neg (by decide), if_neg (by decide), if_pos (by simp)]
      simp
    rw [e3]
    simp [leaves]
/-- what tree_names tells of words -/
def namesOf (P : Wd → Bool) (ws : List Wd) : Option (List Wd) := match nmAll P ws ⟨[], [], false⟩ with
  | none => none
  | some s => if s.ended = true ∧ s.names.Nodup then some s.names else none
theorem names_toks {P : Wd → Bool} {t : Tr} (h : Good P t) (d : (leaves t).Nodup) : namesOf P (toks t) = some (leaves t) := by
  unfold namesOf
  rw [nm_toks h]
  show (if (close ([] ++ leaves t) []).ended = true ∧ (close ([] ++ leaves t) []).names.Nodup then _ else _) = _
  rw [if_pos ⟨rfl, by simpa [close] using d⟩]
  simp [close]
theorem names_more {P : Wd → Bool} {t : Tr} (h : Good P t) {w : Wd} {r : List Wd} : namesOf P (toks t ++ w :: r) = none := by
  unfold namesOf
  rw [nm_app, nm_toks h]
  rfl
theorem names_nil {P : Wd → Bool} : namesOf P [] = none := by
  unfold namesOf
  show (if (false = true ∧ _) then _ else _) = _
  rw [if_neg (fun z => by cases z.1)]
theorem names_open {P : Wd → Bool} {t : Tr} (h : Good P t) : namesOf P ([40] :: toks t) = none := by
  unfold namesOf
  have e : nmAll P ([40] :: toks t) ⟨[], [], false⟩ = some ⟨[] ++ leaves t, [1], false⟩ := by
    show nmAll P (toks t) ⟨[], [] ++ [0], false⟩ = _
    rw [nm_toks h, close_open]
    rfl
  rw [e]
  show (if (false = true ∧ _) then _ else _) = _
  rw [if_neg (fun z => by cases z.1)]
theorem names_empty {P : Wd → Bool} : namesOf P [[40], [41]] = none := by
  unfold namesOf
  have e : nmAll P [[40], [41]] ⟨[], [], false⟩ = none := by
    show (match nm P ⟨[], [0], false⟩ [41] with | none => none | some s' => some s') = none
    have e3 : nm P ⟨[], [0], false⟩ [41] = none := by
      unfold nm
      rw [if_neg Bool.false_ne_true, if_neg (by decide), if_neg (by decide), if_neg (by simp)]
    rw [e3]
  rw [e]
/-! tree_halves: the stack of texts (the last one last), the dict's entries -/
abbrev Ent := List Nat × Option (List Nat × List Nat)
def ent : Tr → Ent
  | leaf w => (w, none)
  | node l r => (spell (node l r), some (spell l, spell r))
def hv (s : List (List Nat) × List Ent) (w : Wd) : List (List Nat) × List Ent :=
  if w = [41] then
    let r := s.1.getLast?.getD []
    let l := s.1.dropLast.getLast?.getD []
    let x := 40 :: (l ++ 32 :: (r ++ [41]))
    (s.1.dropLast.dropLast ++ [x], s.2 ++ [(x, some (l, r))])
  else if w ≠ [40] then (s.1 ++ [w], s.2 ++ [(w, none)]) else s
theorem hv_toks : ∀ {t : Tr} {st : List (List Nat)} {en : List Ent}, Ok t → (toks t).foldl hv (st, en) = (st ++ [spell t], en ++ (nodes t).map ent)
  | leaf w, st, en, h => by
    show hv (st, en) w = _
    unfold hv
    rw [if_neg h.name.plain.2, if_pos h.name.plain.1]
    rfl
  | node l r, st, en, h => by
    have e0 : hv (st, en) [40] = (st, en) := rfl
    rw [toks, List.foldl_cons, e0, List.foldl_append, hv_toks h.l, List.foldl_append, hv_toks h.r]
    show hv _ [41] = _
    unfold hv
    rw [if_pos rfl]
    simp [nodes, ent, spell]
theorem ent_key : ∀ t : Tr, (ent t).1 = spell t
  | leaf w => rfl
  | node l r => rfl
theorem leaves_len {l r : Tr} : 1 ≤ (leaves l).length := List.length_pos_iff.mpr (leaves_pos l)
theorem sub_len : ∀ {t n : Tr}, n ∈ nodes t → (leaves n).length ≤ (leaves t).length
  | leaf w, n, h => by
    rw [List.mem_singleton.mp h]
    exact Nat.le_refl _
  | node l r, n, h => by
    show _ ≤ (leaves l ++ leaves r).length
    rw [List.length_append]
    rcases List.mem_append.mp h with h | h
    · rcases List.mem_append.mp h with h | h
      · have := sub_len h; omega
      · have := sub_len h; omega
    · rw [List.mem_singleton.mp h]
      show (leaves l ++ leaves r).length ≤ _
      rw [List.length_append]
      exact Nat.le_refl _
theorem nodes_nodup : ∀ {t : Tr}, (leaves t).Nodup → (nodes t).Nodup
  | leaf w, _ => by simp [nodes]
  | node l r, h => by
    have hl := nodes_nodup (List.nodup_append.mp h).1
    have hr := nodes_nodup (List.nodup_append.mp h).2.1
    show ((nodes l ++ nodes r) ++ [node l r]).Nodup
    rw [List.nodup_append]
    refine ⟨?_, by simp, fun a ha b hb e => ?_⟩
    · rw [List.nodup_append]
      exact ⟨hl, hr, fun a ha b hb e => not_both h ha (e ▸ hb)⟩
    · rw [List.mem_singleton.mp hb] at e
      have p1 : 1 ≤ (leaves l).length := List.length_pos_iff.mpr (leaves_pos l)
      have p2 : 1 ≤ (leaves r).length := List.length_pos_iff.mpr (leaves_pos r)
      have e2 : (leaves a).length = (leaves l ++ leaves r).length := by rw [e]; rfl
      rw [List.length_append] at e2
      rcases List.mem_append.mp ha with ha | ha
      · have := sub_len ha; omega
      · have := sub_len ha; omega
theorem ok_sub : ∀ {t n : Tr}, Ok t → n ∈ nodes t → Ok n := fun ht hn w hw => ht w (mem_leaves hn w hw)
theorem keys_nodup {t : Tr} (ht : Ok t) (h : (leaves t).Nodup) : ((nodes t).map fun n => spell n).Nodup := by
  have := nodes_nodup h
  rw [List.nodup_iff_pairwise_ne, List.pairwise_map]
  exact List.Pairwise.imp_of_mem (fun ha hb hne e => hne (spell_inj (ok_sub ht ha) (ok_sub ht hb) e)) (List.nodup_iff_pairwise_ne.mp this)
theorem spell_mem {t n : Tr} (ht : Ok t) (hn : Ok n) : spell n ∈ (nodes t).map (fun n => spell n) ↔ n ∈ nodes t := by
  constructor
  · intro h
    obtain ⟨m, hm, e⟩ := List.mem_map.mp h
    rw [← spell_inj (ok_sub ht hm) hn e]
    exact hm
  · exact fun h => List.mem_map.mpr ⟨n, h, rfl⟩
end P22

set_option Elab.async false
set_option linter.all false
/-! S22: tree_halves runs through a tree's words -/
namespace P22
open Tr
def joinT (l r : List Nat) : List Nat := 40 :: (l ++ 32 :: (r ++ [41]))
/-- each word finds what it asks for: a pair two texts, a text a place of its own -/
def Fits (B : Nat) : List Wd → List (List Nat) × List Ent → Prop
  | [], _ => True
  | w :: ws, s => (w = [40] ∨ (Plain w ∧ (∀ e ∈ s.2, e.1 ≠ w) ∧ w.length ≤ B) ∨ (w = [41] ∧ ∃ st l r, s.1 = st ++ [l] ++ [r] ∧ (∀ e ∈ s.2, e.1 ≠ joinT l r) ∧ (joinT l r).length ≤ B)) ∧ Fits B ws (hv s w)
theorem hv_open (s : List (List Nat) × List Ent) : hv s [40] = s := rfl
theorem hv_plain {w : Wd} (h : Plain w) (s : List (List Nat) × List Ent) : hv s w = (s.1 ++ [w], s.2 ++ [(w, none)]) := by
  unfold hv
  rw [if_neg h.2, if_pos h.1]
theorem hv_close {st : List (List Nat)} {l r : List Nat} {en : List Ent} : hv (st ++ [l] ++ [r], en) [41] = (st ++ [joinT l r], en ++ [(joinT l r, some (l, r))]) := by
  unfold hv
  rw [if_pos rfl]
  simp [joinT]
theorem spell_sub : ∀ {t n : Tr}, n ∈ nodes t → (spell n).length ≤ (spell t).length := fun {t n} h => by
  obtain ⟨p, q, e⟩ := spell_in h
  rw [e]
  simp only [List.length_append]
  omega
theorem self_mem : ∀ t : Tr, t ∈ nodes t
  | leaf w => List.mem_singleton.mpr rfl
  | node l r => List.mem_append_right _ (List.mem_singleton.mpr rfl)
theorem fits_toks {B : Nat} : ∀ {t : Tr} {st : List (List Nat)} {en : List Ent} {ws : List Wd}, Ok t → (leaves t).Nodup → (∀ n ∈ nodes t, ∀ e ∈ en, e.1 ≠ spell n) → (spell t).length ≤ B → Fits B ws (st ++ [spell t], en ++ (nodes t).map ent) → Fits B (toks t ++ ws) (st, en)
  | leaf w, st, en, ws, ok, nd, fr, hl, h => by
    refine ⟨.inr (.inl ⟨ok.name.plain, fr (leaf w) (self_mem _), hl⟩), ?_⟩
    rw [hv_plain ok.name.plain]
    exact h
  | node l r, st, en, ws, ok, nd, fr, hl, h => by
    have nl : (leaves l).Nodup := (List.nodup_append.mp nd).1
    have nr : (leaves r).Nodup := (List.nodup_append.mp nd).2.1
    have key : ∀ {n m : Tr}, n ∈ nodes (node l r) → m ∈ nodes (node l r) → n ≠ m → (ent n).1 ≠ spell m := fun hn hm ne e => ne (spell_inj (ok_sub ok hn) (ok_sub ok hm) (by rw [← ent_key]; exact e))
    have inl : ∀ {n}, n ∈ nodes l → n ∈ nodes (node l r) := fun h => List.mem_append_left _ (List.mem_append_left _ h)
    have inr : ∀ {n}, n ∈ nodes r → n ∈ nodes (node l r) := fun h => List.mem_append_left _ (List.mem_append_right _ h)
    have nn := nodes_nodup nd
    have nself : ∀ {n}, n ∈ nodes l ++ nodes r → n ≠ node l r := fun {n} hn e => (List.nodup_append.mp (show ((nodes l ++ nodes r) ++ [node l r]).Nodup from nn)).2.2 n hn (node l r) (List.mem_singleton.mpr rfl) e
    show Fits B (([40] :: (toks l ++ (toks r ++ [[41]]))) ++ ws) (st, en)
    rw [show ([40] :: (toks l ++ (toks r ++ [[41]]))) ++ ws = [40] :: (toks l ++ (toks r ++ ([41] :: ws))) by simp]
    refine ⟨.inl rfl, ?_⟩
    rw [hv_open]
    refine fits_toks ok.l nl (fun n hn e he => fr n (inl hn) e he) (Nat.le_trans (spell_sub (inl (self_mem l))) hl) ?_
    refine fits_toks ok.r nr (fun n hn e he => ?_) (Nat.le_trans (spell_sub (inr (self_mem r))) hl) ?_
    · rcases List.mem_append.mp he with he | he
      · exact fr n (inr hn) e he
      · obtain ⟨m, hm, rfl⟩ := List.mem_map.mp he
        exact key (inl hm) (inr hn) fun e => not_both nd hm (e ▸ hn)
    · refine ⟨.inr (.inr ⟨rfl, st, spell l, spell r, rfl, fun e he => ?_, hl⟩), ?_⟩
      · show e.1 ≠ spell (node l r)
        rcases List.mem_append.mp he with he | he
        · rcases List.mem_append.mp he with he | he
          · exact fr (node l r) (self_mem _) e he
          · obtain ⟨m, hm, rfl⟩ := List.mem_map.mp he
            exact key (inl hm) (self_mem _) (nself (List.mem_append_left _ hm))
        · obtain ⟨m, hm, rfl⟩ := List.mem_map.mp he
          exact key (inr hm) (self_mem _) (nself (List.mem_append_right _ hm))
      · rw [hv_close]
        have e : en ++ (nodes (node l r)).map ent = en ++ (nodes l).map ent ++ (nodes r).map ent ++ [(joinT (spell l) (spell r), some (spell l, spell r))] := by
          simp [nodes, ent, spell, joinT]
        rw [e] at h
        exact h
theorem fits {B : Nat} {t : Tr} (ok : Ok t) (nd : (leaves t).Nodup) (hl : (spell t).length ≤ B) : Fits B (toks t) ([], []) := by
  have := fits_toks (st := []) (en := []) (ws := []) ok nd (fun _ _ _ he => by cases he) hl trivial
  rw [List.append_nil] at this
  exact this
end P22

set_option Elab.async false
set_option linter.all false
/-! QQ22: texts written with other spaces; strange deeds -/
namespace P22
open Tr
theorem run_pre (p : List Wd) : ∀ (x : List Nat) (o : List Wd) (a : Wd), run (p ++ o, a) x = (p ++ (run (o, a) x).1, (run (o, a) x).2)
  | [], o, a => rfl
  | c :: x, o, a => by
    show run (step (p ++ o, a) c) x = _
    have e : run (o, a) (c :: x) = run (step (o, a) c) x := rfl
    rw [e]
    unfold step
    by_cases h1 : c = 32
    · rw [if_pos h1, if_pos h1]
      dsimp only
      rw [List.append_assoc]
      exact run_pre p x _ _
    · rw [if_neg h1, if_neg h1]
      by_cases h2 : c = 40 ∨ c = 41
      · rw [if_pos h2, if_pos h2]
        dsimp only
        rw [List.append_assoc, List.append_assoc, ← List.append_assoc o]
        exact run_pre p x _ _
      · rw [if_neg h2, if_neg h2]
        exact run_pre p x _ _
theorem run_spaces (o : List Wd) (a : Wd) : ∀ k : Nat, run (o, a) (List.replicate k 32) = if k = 0 then (o, a) else (o ++ fl a, [])
  | 0 => rfl
  | k + 1 => by
    rw [List.replicate_succ, run_space, if_neg (by omega), run_spaces _ _ k, fl_nil, List.append_nil]
    by_cases h : k = 0
    · rw [if_pos h]
    · rw [if_neg h]
def Brk (w : Wd) : Prop := w = [40] ∨ w = [41]
instance (w : Wd) : Decidable (Brk w) := inferInstanceAs (Decidable (_ ∨ _))
/-- x writes the words ws, the last one last -/
structure Wrt (x : List Nat) (ws : List Wd) (last : Wd) : Prop where
  ex : ∃ o a, run ([], []) x = (o, a) ∧ o ++ fl a = ws ∧ (Brk last → a = [])
theorem Wrt.start {k : Nat} : Wrt (List.replicate k 32) [] [40] := ⟨by
  rw [run_spaces]
  by_cases h : k = 0
  · rw [if_pos h]; exact ⟨_, _, rfl, rfl, fun _ => rfl⟩
  · rw [if_neg h]; exact ⟨_, _, rfl, rfl, fun _ => rfl⟩⟩
theorem Wrt.next {x : List Nat} {ws : List Wd} {last w : Wd} {k : Nat} (h : Wrt x ws last) (hw : Brk w ∨ Name w) (hk : (Brk last ∨ Brk w) ∨ 1 ≤ k) : Wrt (x ++ List.replicate k 32 ++ w) (ws ++ [w]) w := by
  obtain ⟨o, a, h1, h2, h3⟩ := h
  obtain ⟨o2, a2, r2, e2, z2⟩ : ∃ o2 a2, run ([], []) (x ++ List.replicate k 32) = (o2, a2) ∧ o2 ++ fl a2 = ws ∧ (¬ Brk w → a2 = []) := by
    rw [run_app, h1, run_spaces]
    by_cases h : k = 0
    · rw [if_pos h]
      refine ⟨_, _, rfl, h2, fun nb => ?_⟩
      rcases hk with (hk | hk) | hk
      · exact h3 hk
      · exact absurd hk nb
      · omega
    · rw [if_neg h]
      exact ⟨_, _, rfl, by rw [fl_nil, List.append_nil]; exact h2, fun _ => rfl⟩
  refine ⟨?_⟩
  rw [run_app, r2]
  rcases hw with hw | hw
  · rcases hw with rfl | rfl
    · exact ⟨_, _, rfl, by rw [fl_nil, List.append_nil, e2], fun _ => rfl⟩
    · exact ⟨_, _, rfl, by rw [fl_nil, List.append_nil, e2], fun _ => rfl⟩
  · have nb : ¬ Brk w := fun z => by
      rcases z with z | z
      · exact hw.plain.1 z
      · exact hw.plain.2 z
    obtain rfl := z2 nb
    rw [run_name hw]
    rw [fl_nil, List.append_nil] at e2
    exact ⟨_, _, rfl, by rw [fl_ne hw.ne, e2], fun z => absurd z nb⟩
theorem Wrt.done {x : List Nat} {ws : List Wd} {last : Wd} {k : Nat} (h : Wrt x ws last) : words (x ++ List.replicate k 32) = ws := by
  obtain ⟨o, a, h1, h2, h3⟩ := h
  unfold words
  rw [run_app, h1, run_spaces]
  by_cases h : k = 0
  · rw [if_pos h]
    exact h2
  · rw [if_neg h]
    unfold fin
    rw [fl_nil, List.append_nil]
    exact h2
/-- a word, spaces, then the words of x -/
theorem words_front {u x : List Nat} {k : Nat} (hu : Name u) (hk : 1 ≤ k) : words (u ++ List.replicate k 32 ++ x) = u :: words x := by
  unfold words
  rw [run_app, run_app, run_name hu, run_spaces, if_neg (by omega), fl_ne hu.ne]
  have e := run_pre [u] x [] []
  rw [List.append_nil] at e
  rw [List.nil_append, e]
  rfl
theorem words_front1 {u x : List Nat} (hu : Name u) : words (u ++ 32 :: x) = u :: words x := by
  have := words_front (x := x) hu (Nat.le_refl 1)
  rw [List.append_assoc] at this
  exact this
/-- behind a tree's text comes a space -/
theorem words_two {t : Tr} {x : List Nat} (h : Ok t) : words (spell t ++ 32 :: x) = toks t ++ words x := by
  obtain ⟨o, a, h1, h2⟩ := run_spell (o := []) h
  unfold words
  rw [run_app, h1, run_space, h2]
  have e := run_pre (toks t) x [] []
  rw [List.append_nil] at e
  rw [List.nil_append, e]
  unfold fin
  rw [List.append_assoc]
theorem words_close {t : Tr} (h : Ok t) : words (spell t ++ [41]) = toks t ++ [[41]] := by
  obtain ⟨o, a, h1, h2⟩ := run_spell (o := []) h
  unfold words
  rw [run_app, h1, run_41, h2, List.nil_append]
  show toks t ++ [[41]] ++ fl [] = _
  rw [fl_nil, List.append_nil]
theorem words_opened {t : Tr} (h : Ok t) : words (40 :: spell t) = [40] :: toks t := by
  obtain ⟨o, a, h1, h2⟩ := run_spell (o := [[40]]) h
  unfold words
  rw [run_40, fl_nil]
  show fin (run ([] ++ [] ++ [[40]], []) (spell t)) = _
  rw [List.append_nil, List.nil_append, h1]
  exact h2
theorem toks_ne (t : Tr) : ∃ w r, toks t = w :: r := by
  cases t with
  | leaf w => exact ⟨w, [], rfl⟩
  | node l r => exact ⟨_, _, rfl⟩
theorem toks_word {t : Tr} (h : Ok t) : ∀ w ∈ toks t, Brk w ∨ Name w := by
  induction t with
  | leaf w =>
    intro v hv
    rw [List.mem_singleton.mp hv]
    exact .inr h.name
  | node l r il ir =>
    intro v hv
    rcases List.mem_cons.mp hv with rfl | hv
    · exact .inl (.inl rfl)
    · rcases List.mem_append.mp hv with hv | hv
      · exact il h.l v hv
      · rcases List.mem_append.mp hv with hv | hv
        · exact ir h.r v hv
        · rw [List.mem_singleton.mp hv]
          exact .inl (.inr rfl)
/-- a deed goes back -/
theorem put_back {n new : Tr} (hp : (leaves new).Perm (leaves n)) : ∀ {t : Tr}, (leaves t).Nodup → n ∈ nodes t → put new n (put n new t) = t
  | leaf w, nd, hn => by
    have e := List.mem_singleton.mp hn
    subst e
    rw [show put (leaf w) new (leaf w) = new from if_pos rfl]
    cases new with
    | leaf v => exact if_pos rfl
    | node l r => exact if_pos rfl
  | node l r, nd, hn => by
    by_cases e : node l r = n
    · subst e
      rw [show put (node l r) new (node l r) = new from if_pos rfl]
      cases new with
      | leaf v => exact if_pos rfl
      | node l r => exact if_pos rfl
    · have nd2 : (leaves l ++ leaves r).Nodup := nd
      have nl := (List.nodup_append.mp nd2).1
      have nr := (List.nodup_append.mp nd2).2.1
      rw [show put n new (node l r) = node (put n new l) (put n new r) from if_neg e]
      have hlr : n ∈ nodes l ∨ n ∈ nodes r := by
        rcases List.mem_append.mp hn with z | z
        · exact List.mem_append.mp z
        · exact absurd (List.mem_singleton.mp z).symm e
      have len : (leaves new).length = (leaves n).length := hp.length_eq
      have big : ∀ a b : Tr, (leaves a).length = (leaves l).length → (leaves b).length = (leaves r).length → node a b ≠ new := fun a b ha hb z => by
        have h1 : (leaves new).length = (leaves l).length + (leaves r).length := by rw [← z, leaves, List.length_append, ha, hb]
        have h2 : 1 ≤ (leaves l).length := leaves_len (l := l) (r := r)
        have h3 : 1 ≤ (leaves r).length := leaves_len (l := r) (r := l)
        rcases hlr with z | z
        · have := sub_len z
          omega
        · have := sub_len z
          omega
      have pl : ∀ t : Tr, (leaves (put n new t)).length = (leaves t).length := fun t => (put_permX hp t).length_eq
      rw [show put new n (node (put n new l) (put n new r)) = node (put new n (put n new l)) (put new n (put n new r)) from if_neg (big _ _ (pl l) (pl r))]
      have notin : ∀ {a b : Tr}, (leaves a ++ leaves b).Nodup → n ∈ nodes a → n ∉ nodes b ∧ new ∉ nodes b := fun {a b} ndab ha => by
        refine ⟨fun hb => not_both ndab ha hb, fun hb => ?_⟩
        obtain ⟨w, hw⟩ := List.exists_mem_of_ne_nil _ (leaves_pos new)
        exact (List.nodup_append.mp ndab).2.2 w (mem_leaves ha w (hp.mem_iff.mp hw)) w (mem_leaves hb w hw) rfl
      rcases hlr with z | z
      · obtain ⟨h1, h2⟩ := notin nd2 z
        rw [put_back hp nl z, put_id h1, put_id h2]
      · obtain ⟨h1, h2⟩ := notin (List.perm_append_comm.nodup_iff.mp nd2) z
        rw [put_back hp nr z, put_id h1, put_id h2]
where put_permX {old new : Tr} (h : (leaves new).Perm (leaves old)) : ∀ t : Tr, (leaves (put old new t)).Perm (leaves t)
  | leaf w => by
    unfold put
    by_cases e : leaf w = old
    · rw [if_pos e, e]
      exact h
    · rw [if_neg e]
  | node l r => by
    unfold put
    by_cases e : node l r = old
    · rw [if_pos e, e]
      exact h
    · rw [if_neg e]
      exact List.Perm.append (put_permX h l) (put_permX h r)
theorem put_mem {n new : Tr} : ∀ {t : Tr}, n ∈ nodes t → new ∈ nodes (put n new t)
  | leaf w, hn => by
    rw [List.mem_singleton.mp hn, show put (leaf w) new (leaf w) = new from if_pos rfl]
    exact self_mem new
  | node l r, hn => by
    by_cases e : node l r = n
    · rw [show put n new (node l r) = new from if_pos e]
      exact self_mem new
    · rw [show put n new (node l r) = node (put n new l) (put n new r) from if_neg e]
      rcases List.mem_append.mp hn with z | z
      · rcases List.mem_append.mp z with z | z
        · exact List.mem_append_left _ (List.mem_append_left _ (put_mem z))
        · exact List.mem_append_left _ (List.mem_append_right _ (put_mem z))
      · exact absurd (List.mem_singleton.mp z).symm e
end P22

set_option Elab.async false
set_option linter.all false
set_option maxRecDepth 100000
set_option maxHeartbeats 4000000
/-! CB22: combs, the deeds from a tree to its comb and back, the exchanges of neighbours (pure) -/
namespace P22
open Tr
/-- the deeds: 0 swap, 1 right, 2 left -/
def act : Nat → Tr → Option Tr
  | 0, node l r => some (node r l)
  | 1, node (node a b) r => some (node a (node b r))
  | 2, node a (node b r) => some (node (node a b) r)
  | _, _ => none
inductive Walks : Tr → List (Nat × Tr) → Tr → Prop
  | nil {t : Tr} : Walks t [] t
  | cons {t n m u : Tr} {k : Nat} {ds : List (Nat × Tr)} : n ∈ nodes t → act k n = some m → Walks (put n m t) ds u → Walks t ((k, n) :: ds) u
theorem Walks.app {t u v : Tr} {ds es : List (Nat × Tr)} (h : Walks t ds u) (k : Walks u es v) : Walks t (ds ++ es) v := by
  induction h with
  | nil => exact k
  | cons h1 h2 _ ih => exact .cons h1 h2 (ih k)
theorem Walks.one {t n m : Tr} {k : Nat} (h : n ∈ nodes t) (e : act k n = some m) : Walks t [(k, n)] (put n m t) := .cons h e .nil
/-- leaves at the left, one behind the other -/
def plug : List Wd → Tr → Tr
  | [], t => t
  | w :: ws, t => node (leaf w) (plug ws t)
def comb : List Wd → Tr
  | [] => leaf []
  | [w] => leaf w
  | w :: v :: r => node (leaf w) (comb (v :: r))
theorem plug_snoc (w : Wd) (t : Tr) : ∀ ws : List Wd, plug (ws ++ [w]) t = plug ws (node (leaf w) t)
  | [] => rfl
  | v :: ws => by
    show node (leaf v) (plug (ws ++ [w]) t) = node (leaf v) (plug ws (node (leaf w) t))
    rw [plug_snoc w t ws]
theorem comb_cons {w : Wd} {r : List Wd} (h : r ≠ []) : comb (w :: r) = node (leaf w) (comb r) := by
  cases r with
  | nil => exact absurd rfl h
  | cons v r => rfl
theorem comb_plug {r : List Wd} (h : r ≠ []) : ∀ ws : List Wd, comb (ws ++ r) = plug ws (comb r)
  | [] => rfl
  | w :: ws => by
    rw [List.cons_append, comb_cons (by simp [h]), comb_plug h ws]
    rfl
theorem comb_leaves : ∀ {ws : List Wd}, ws ≠ [] → leaves (comb ws) = ws
  | [], h => absurd rfl h
  | [w], _ => rfl
  | w :: v :: r, _ => by
    show [w] ++ leaves (comb (v :: r)) = _
    rw [comb_leaves (List.cons_ne_nil _ _)]
    rfl
theorem plug_leaves (t : Tr) : ∀ ws : List Wd, leaves (plug ws t) = ws ++ leaves t
  | [] => rfl
  | w :: ws => by
    show [w] ++ leaves (plug ws t) = _
    rw [plug_leaves t ws]
    rfl
theorem self_in (t : Tr) : t ∈ nodes t := by
  cases t with
  | leaf w => exact List.mem_singleton.mpr rfl
  | node l r => exact List.mem_append_right _ (List.mem_singleton.mpr rfl)
theorem plug_in {n t : Tr} (h : n ∈ nodes t) : ∀ ws : List Wd, n ∈ nodes (plug ws t)
  | [] => h
  | w :: ws => List.mem_append_left _ (List.mem_append_right _ (plug_in h ws))
theorem plug_pos (t : Tr) (ws : List Wd) : (leaves t).length ≤ (leaves (plug ws t)).length := by
  rw [plug_leaves, List.length_append]
  omega
/-- a node that is no leaf, put behind leaves -/
theorem put_plug {a b m t : Tr} (h : (leaves (node a b)).length ≤ (leaves t).length) : ∀ ws : List Wd, put (node a b) m (plug ws t) = plug ws (put (node a b) m t)
  | [] => rfl
  | w :: ws => by
    have e : node (leaf w) (plug ws t) ≠ node a b := fun z => by
      have := plug_pos t ws
      rw [← z] at h
      simp only [leaves, List.length_append, List.length_cons, List.length_nil] at h
      omega
    show put (node a b) m (node (leaf w) (plug ws t)) = node (leaf w) (plug ws (put (node a b) m t))
    rw [put, if_neg e, put_plug h ws]
    rw [show put (node a b) m (leaf w) = leaf w from if_neg (fun z => by cases z)]
theorem put_self (n m : Tr) : put n m n = m := by
  cases n with
  | leaf w => exact if_pos rfl
  | node l r => exact if_pos rfl
theorem put_plugS {a b m : Tr} (ws : List Wd) : put (node a b) m (plug ws (node a b)) = plug ws m := by
  rw [put_plug (Nat.le_refl _), put_self]
/-- the right turns from m to its comb: before and behind -/
def size : Tr → Nat
  | leaf _ => 0
  | node l r => size l + size r + 1
def steps : Tr → List (Tr × Tr)
  | leaf _ => []
  | node (leaf _) r => steps r
  | node (node a b) r => (node (node a b) r, node a (node b r)) :: steps (node a (node b r))
termination_by t => (size t, match t with | leaf _ => 0 | node l _ => size l)
decreasing_by
  · simp_wf
    refine Prod.Lex.left _ _ ?_
    simp only [size]
    omega
  · simp_wf
    have e : size (node a (node b r)) = size (node (node a b) r) := by
      simp only [size]
      omega
    rw [e]
    refine Prod.Lex.right _ ?_
    simp only [size]
    omega
theorem comb_one (w : Wd) : comb [w] = leaf w := rfl
theorem steps_right : ∀ (m : Tr) (ws : List Wd), Walks (plug ws m) ((steps m).map fun p => (1, p.1)) (plug ws (comb (leaves m))) := by
  intro m
  induction m using steps.induct with
  | case1 w =>
    intro ws
    rw [steps]
    exact .nil
  | case2 w r ih =>
    intro ws
    rw [steps]
    have h := ih (List.append ws [w])
    rw [show List.append ws [w] = ws ++ [w] from rfl, plug_snoc, plug_snoc] at h
    rw [show leaves (node (leaf w) r) = w :: leaves r from rfl, comb_cons (leaves_pos r)]
    exact h
  | case3 a b r ih =>
    intro ws
    rw [steps, List.map_cons]
    refine .cons (plug_in (self_in _) ws) rfl ?_
    rw [put_plugS]
    have e : leaves (node (node a b) r) = leaves (node a (node b r)) := by simp only [leaves, List.append_assoc]
    rw [e]
    exact ih ws
theorem steps_left : ∀ (m : Tr) (ws : List Wd), Walks (plug ws (comb (leaves m))) ((steps m).map fun p => (2, p.2)).reverse (plug ws m) := by
  intro m
  induction m using steps.induct with
  | case1 w =>
    intro ws
    rw [steps]
    exact .nil
  | case2 w r ih =>
    intro ws
    rw [steps]
    have h := ih (List.append ws [w])
    rw [show List.append ws [w] = ws ++ [w] from rfl, plug_snoc, plug_snoc] at h
    rw [show leaves (node (leaf w) r) = w :: leaves r from rfl, comb_cons (leaves_pos r)]
    exact h
  | case3 a b r ih =>
    intro ws
    rw [steps, List.map_cons, List.reverse_cons]
    have e : leaves (node (node a b) r) = leaves (node a (node b r)) := by simp only [leaves, List.append_assoc]
    rw [e]
    refine (ih ws).app ?_
    have h := Walks.one (k := 2) (m := node (node a b) r) (plug_in (self_in (node a (node b r))) ws) rfl
    rw [put_plugS] at h
    exact h
/-- neighbours exchanged: the deeds -/
def exch (f s : Wd) (r : List Wd) : List (Nat × Tr) :=
  if r = [] then [(0, node (leaf f) (leaf s))] else [(2, node (leaf f) (node (leaf s) (comb r))), (0, node (leaf f) (leaf s)), (1, node (node (leaf s) (leaf f)) (comb r))]
theorem exch_walks {ws r : List Wd} {f s : Wd} (nd : (ws ++ f :: s :: r).Nodup) : Walks (comb (ws ++ f :: s :: r)) (exch f s r) (comb (ws ++ s :: f :: r)) := by
  rw [comb_plug (List.cons_ne_nil _ _), comb_plug (List.cons_ne_nil _ _)]
  have e1 : ∀ x y : Wd, comb (x :: y :: r) = node (leaf x) (comb (y :: r)) := fun x y => rfl
  rw [e1, e1]
  unfold exch
  by_cases hr : r = []
  · subst hr
    rw [if_pos rfl]
    have h := Walks.one (k := 0) (m := node (leaf s) (leaf f)) (plug_in (self_in (node (leaf f) (leaf s))) ws) rfl
    rw [put_plugS] at h
    exact h
  · rw [if_neg hr, comb_cons hr, comb_cons hr]
    refine .cons (m := node (node (leaf f) (leaf s)) (comb r)) (plug_in (self_in _) ws) rfl ?_
    rw [put_plugS]
    refine .cons (m := node (leaf s) (leaf f)) (plug_in (List.mem_append_left _ (List.mem_append_left _ (self_in _))) ws) rfl ?_
    have ne : node (node (leaf f) (leaf s)) (comb r) ≠ node (leaf f) (leaf s) := fun z => by cases z
    have ni : node (leaf f) (leaf s) ∉ nodes (comb r) := fun z => by
      have h1 := mem_leaves z f List.mem_cons_self
      rw [comb_leaves hr] at h1
      have h2 := (List.nodup_append.mp nd).2.1
      exact (List.nodup_cons.mp h2).1 (List.mem_cons_of_mem _ h1)
    rw [put_plug (by simp only [leaves, List.length_append, List.length_cons, List.length_nil]; omega), put, if_neg ne, put_self, put_id ni]
    have h := Walks.one (k := 1) (m := node (leaf s) (node (leaf f) (comb r))) (plug_in (self_in (node (node (leaf s) (leaf f)) (comb r))) ws) rfl
    rw [put_plugS] at h
    exact h
end P22
namespace P22
open Tr
/-- a row with two neighbours -/
theorem cut_at {row : List Wd} {i : Nat} (h : i + 1 < row.length) : ∃ ws f s r, row = ws ++ f :: s :: r ∧ ws.length = i := by
  refine ⟨row.take i, row[i], row[i + 1], row.drop (i + 2), ?_, by rw [List.length_take]; omega⟩
  rw [← List.drop_eq_getElem_cons h, ← List.drop_eq_getElem_cons (by omega), List.take_append_drop]
section
variable {ws r : List Wd} {f s : Wd}
theorem at_f : (ws ++ f :: s :: r)[ws.length]? = some f := by simp
theorem at_s : (ws ++ f :: s :: r)[ws.length + 1]? = some s := by
  rw [List.getElem?_append_right (by omega)]
  simp
theorem at_r : (ws ++ f :: s :: r).drop (ws.length + 2) = r := by
  rw [List.drop_append]
  simp
theorem at_set : ((ws ++ f :: s :: r).set ws.length s).set (ws.length + 1) f = ws ++ s :: f :: r := by
  rw [List.set_append_right _ _ (Nat.le_refl _), Nat.sub_self, List.set_append_right _ _ (by omega)]
  simp
theorem swap_perm : (ws ++ s :: f :: r).Perm (ws ++ f :: s :: r) := List.Perm.append_left _ (List.Perm.swap _ _ _)
end
/-- a deed's text -/
def kw : Nat → List Nat
  | 0 => [115, 119, 97, 112]
  | 1 => [114, 105, 103, 104, 116]
  | _ => [108, 101, 102, 116]
def dtext (d : Nat × Tr) : List Nat := kw d.1 ++ 32 :: spell d.2
/-- all that a walk names are deeds at nodes over the tree's leaves -/
theorem Walks.perm {t u : Tr} {ds : List (Nat × Tr)} (h : Walks t ds u) : (leaves u).Perm (leaves t) := by
  induction h with
  | nil => exact List.Perm.refl _
  | @cons t n m u k ds h1 h2 _ ih => exact ih.trans (put_permA (act_perm h2) t)
where
  act_perm {k : Nat} {n m : Tr} (h : act k n = some m) : (leaves m).Perm (leaves n) := by
    unfold act at h
    split at h
    · cases h
      exact List.perm_append_comm
    · cases h
      simp only [leaves, List.append_assoc]
      exact List.Perm.refl _
    · cases h
      simp only [leaves, List.append_assoc]
      exact List.Perm.refl _
    · cases h
  put_permA {old new : Tr} (h : (leaves new).Perm (leaves old)) : ∀ t : Tr, (leaves (put old new t)).Perm (leaves t)
    | leaf w => by
      unfold put
      by_cases e : leaf w = old
      · rw [if_pos e, e]
        exact h
      · rw [if_neg e]
    | node l r => by
      unfold put
      by_cases e : node l r = old
      · rw [if_pos e, e]
        exact h
      · rw [if_neg e]
        exact List.Perm.append (put_permA h l) (put_permA h r)
end P22

set_option Elab.async false
set_option linter.all false
set_option maxRecDepth 100000
set_option maxHeartbeats 4000000
/-! A22: words and names -/
namespace W22
open PySem PySem.Spec PyProof.Rows L2 Lay
open SX (S S_len S_cat S_tl)
open C8 (Cal pe_c pe_gc fnScope_by E0)
/-- what the module's names reach -/
structure Mg (K : PySem.W.Frag) (mg : Str → Option Value) : Prop where
  len_ : mg "len" = none
  int_ : mg "int" = none
  str_ : mg "str" = none
  bool_ : mg "bool" = none
  list_ : mg "list" = none
  tuple_ : mg "tuple" = none
  dict_ : mg "dict" = none
  range_ : mg "range" = none
  set_ : mg "set" = none
  iter_ : mg "iter" = none
  isinstance_ : mg "isinstance" = none
  sorted_ : mg "sorted" = none
  enumerate_ : mg "enumerate" = none
  mostText : ∃ u, mg "MOST_TEXT" = some u ∧ RelV (.int 200000) u
  mostSigns : ∃ u, mg "MOST_SIGNS" = some u ∧ RelV (.int 8) u
  mostLeaves : ∃ u, mg "MOST_LEAVES" = some u ∧ RelV (.int 24) u
  letters : ∃ u, mg "LETTERS" = some u ∧ RelV (.str "abcdefghijklmnopqrstuvwxyz") u
  signs : ∃ u, mg "SIGNS" = some u ∧ RelV (.str "abcdefghijklmnopqrstuvwxyz0123456789") u
  reserved : mg "RESERVED" = some (.ref (He.ga K "RESERVED"))
  reservedT : ∀ H : Hp, SqT K H (He.ga K "RESERVED") (W22.reserved.map V.str)
  deeds : mg "DEEDS" = some (.ref (He.ga K "DEEDS"))
  deedsT : ∀ H : Hp, SqT K H (He.ga K "DEEDS") (W22.deeds.map V.str)
abbrev Fn (K : PySem.W.Frag) (x : Str) (i : Nat) (f : Addr) (fd : FuncData) : Prop := FunD K x x (defArgs (top i)) (defBody (top i)) (defScope (top i)) [] [] f fd
section
variable {P : Program} {w : World} {K : PySem.W.Frag} {mg : Str → Option Value} {base : Heap} {f : Addr} {fd : FuncData}
theorem sc23 : FnScope ["text"] ["text"] (defScope (top 22)) := fnScope_by (by decide +kernel)
def spLen : Sp := fun vs H Q _ => ∃ a : List Nat, vs = [.str (S a)] ∧ a.length ≤ 200000 ∧ Q .non H
theorem ok_check (m : Mg K mg) (F : Fn K "check_length" 22 f fd) (g : mg "check_length" = some (.ref f)) : Cal P w K mg base 1 "check_length" spLen [] := by
  have sc := sc23
  refine calD F g sc (fun _ _ _ _ _ _ us hl => match us, hl with | [_], _ => rfl) ?_ fun cdv A outer s H vs Q E hr h => ?_
  · rintro vs H Q E ⟨a, rfl, _⟩
    rfl
  · obtain ⟨a, rfl, hl, q⟩ := h
    refine ⟨_, (pss_one (ps_if (pt_cmpR op_gt (pe_callB call_len (by rfl) m.len_ boot_len (pa_cons (pv 0) pa_nil)) (pe_gc (v := .int 200000) (by rfl) m.mostText) (nomark _))
        (pss_one ps_never)
        pss_nil)), ?_⟩
    simp only [L2.start, cxOf, tRet, tAndV, tOrV, tNotV, tCB, tCons, tNil, tVar, tC, tOp, tUn, tTest, tB, tIf, tIfS, tSeq, tAsg, tAnd, tOr, tNot, gName, tNext, tCall, tChain, rI, rI0, rEq, rNe, rGcd, rU, tM1, tM0, tSl, tFmtB, tJs, tPart, tNoPart, gTup, gCons, gNil, gSub, tTup, tLst, tPar, L2.rI, List.map_cons, List.map_nil, List.length_cons, List.length_nil, List.cons_append, List.nil_append, List.append_nil, List.getElem?_cons_zero, List.getElem?_cons_succ, List.set_cons_zero, List.set_cons_succ, Option.some.injEq, exists_eq_left, exists_eq_left', exists_eq_right, exists_and_left, exists_and_right, List.cons.injEq, and_true, true_and, V.int.injEq, V.str.injEq, V.bl.injEq, V.ref.injEq, List.replicate, Nat.reduceAdd, Nat.reduceSub, reduceCtorEq, false_and, and_false, if_true, if_false, Bool.false_eq_true, Bool.not_true, Bool.not_false, decide_eq_true_eq]
    refine ⟨a.length, len_S (Nat.le_trans hl (by rw [sizeLine_eq]; decide)), ?_⟩
    rw [if_neg (by omega)]
    exact q
def keepW : V → Option V
  | .str y => if y = "" then none else some (.str y)
  | _ => none
theorem sc24 : FnScope ["line", "word"] ["line"] (defScope (top 23)) := fnScope_by (by decide +kernel)
def spWords : Sp := fun vs H Q _ => ∃ a : List Nat, vs = [.str (S a)] ∧ a.length ≤ 3000000 ∧ ∀ H' t, Same H H' → H t = none → H' t = some (.lst (((TL.spl [32] 0 [] a).filter P22.ne).map fun w => V.str (S w))) → Q (.ref t) H'
theorem ok_words (m : Mg K mg) (F : Fn K "words_of" 23 f fd) (g : mg "words_of" = some (.ref f)) : Cal P w K mg base 1 "words_of" spWords [] := by
  have sc := sc24
  refine calD F g sc (fun _ _ _ _ _ _ us hl => match us, hl with | [_], _ => rfl) ?_ fun cdv A outer s H vs Q E hr h => ?_
  · rintro vs H Q E ⟨a, rfl, _⟩
    rfl
  · obtain ⟨a, rfl, hl, q⟩ := h
    refine ⟨_, pss_one (ps_ret (pe_lcW (own := [("word", 1)]) (g := gName 1) (.inl rfl) sc.nd (pe_split (pv 0) pe_str) (blkOk_by (own := [("word", 1)]) (N := ["line", "word"]) (sc := defScope (top 23)) (by decide +kernel)) (fun _ _ _ _ _ => pg_name (i := 1) sc.nd rfl (.inl rfl))
      (fun _ _ _ _ _ => (pts_one (pt_cmpR op_ne (pv 1) pe_str (nomark _)))) (fun _ _ _ _ _ => pv 1))), ?_⟩
    simp only [L2.start, cxOf, tRet, tAndV, tOrV, tNotV, tCB, tCons, tNil, tVar, tC, tOp, tUn, tTest, tB, tIf, tIfS, tSeq, tAsg, tAnd, tOr, tNot, gName, tNext, tCall, tChain, rI, rI0, rEq, rNe, rGcd, rU, tM1, tM0, tSl, tFmtB, tJs, tPart, tNoPart, gTup, gCons, gNil, gSub, tTup, tLst, tPar, L2.rI, List.map_cons, List.map_nil, List.length_cons, List.length_nil, List.cons_append, List.nil_append, List.append_nil, List.getElem?_cons_zero, List.getElem?_cons_succ, List.set_cons_zero, List.set_cons_succ, Option.some.injEq, exists_eq_left, exists_eq_left', exists_eq_right, exists_and_left, exists_and_right, List.cons.injEq, and_true, true_and, V.int.injEq, V.str.injEq, V.bl.injEq, V.ref.injEq, List.replicate, Nat.reduceAdd, Nat.reduceSub, reduceCtorEq, false_and, and_false, if_true, if_false, Bool.false_eq_true, Bool.not_true, Bool.not_false, decide_eq_true_eq, tLcW]
    have e32 : (" " : Str) = S [32] := by decide +kernel
    rw [e32]
    refine ⟨⟨_, rfl⟩, by rw [S_len]; rfl, by rw [S_len, sizeLine_eq]; omega, fun p hp => ?_⟩
    rw [SX.split_S (by simp) (by decide)]
    refine ⟨p, rfl, _, SqL.of upd_same, keepW, fun D acc y hD hy => ?_, fun D hD => ?_⟩
    · obtain ⟨y', hy', rfl⟩ := List.mem_map.mp hy
      refine ⟨rfl, .str y', rfl, rfl, ?_⟩
      show (match (if y' = "" then none else some (V.str y')) with | none => _ | some z => _)
      by_cases h : y' = ""
      · rw [if_pos h]
        simp [h]
      · rw [if_neg h]
        exact ⟨by simp [h], rfl⟩
    · have e : List.filterMap keepW (List.map V.str (List.map S (TL.spl [32] 0 [] a))) = ((TL.spl [32] 0 [] a).filter P22.ne).map fun w => V.str (S w) := by
        rw [List.map_map, List.filterMap_map]
        induction TL.spl [32] 0 [] a with
        | nil => rfl
        | cons w r ih =>
          rw [List.filterMap_cons, List.filter_cons]
          by_cases h : w = []
          · subst h
            rw [if_neg (by simp [P22.ne])]
            exact ih
          · have h2 : S w ≠ "" := fun z => h (SX.S_inj (show S w = S [] from z.trans (by decide +kernel)))
            rw [if_pos (by simp [P22.ne, h]), show (keepW ∘ (V.str ∘ S)) w = some (V.str (S w)) from if_neg h2, List.map_cons]
            show _ :: _ = _ :: _
            rw [ih]
      exact q _ D ((same_new hp).trans (same_new hD)) ((same_new hp).free hD) (by rw [← e]; exact upd_same)
end
end W22

set_option Elab.async false
set_option linter.all false
set_option maxRecDepth 100000
set_option maxHeartbeats 4000000
/-! B22: texts into words; values and names -/
namespace W22
open PySem PySem.Spec PyProof.Rows L2 Lay
open SX (S S_len S_cat S_tl)
open C8 (Cal pe_c pe_gc fnScope_by E0)
theorem pet_c {X : Cx} {k j : Nat} {x : Str} {sp : Sp} {p pos : Pos} {e : Expr} {es : List Expr} {t : TA} (c : Cal X.prog X.w X.K X.mg X.base k x sp []) (hr : Room j X.A) (hk : k ≤ j) (hg : Gl X x) (ha : PAT X (e :: es) t)
    (hdb : (x == ("__debug__" : Str)) = false := by decide) (he : starEach (e :: es) X.env = (false, eval e X.env) :: starEach es X.env := by rfl) (hpl : (backTo pos (starEach es X.env)).any (·.1) = false := by rfl) :
    PET X (.Call (.Name x p) (e :: es) [] pos) (tCallS sp (fun _ => C8.E0) t) := by
  obtain ⟨f, fd, ps, ds, F, hm, kp, b, d⟩ := c.ex
  cases d
  exact pet_call (ds := []) (dvs := []) F (hr.mono hk) hg hm kp b (fun _ _ _ _ _ _ _ h => h.elim) ha hdb he hpl
theorem repl_S {a y z : List Nat} (h : 1 ≤ y.length) : Txt.replace (S a) (S y) (S z) = S (StrLaws.replL y z a) := by
  have e := StrLaws.replace_list (x := S a) (y := S y) (z := S z) (by rw [S_len]; exact h)
  have e2 := S_tl (Txt.replace (S a) (S y) (S z))
  rw [← e2, e]
theorem inV_S (w : List Nat) (rs : List Str) : inV (V.str (S w)) (rs.map V.str) = decide (w ∈ rs.map fun x => x.cps.toList) := by
  unfold inV
  induction rs with
  | nil => rfl
  | cons x r ih =>
    rw [List.map_cons, List.any_cons, ih, List.map_cons]
    have e : eqV (V.str x) (V.str (S w)) = decide (w = x.cps.toList) := by
      show (x == S w) = _
      rw [Bool.eq_iff_iff, beq_iff_eq, decide_eq_true_eq]
      exact ⟨fun h => by rw [h], fun h => by rw [h, S_tl]⟩
    rw [e, ← Bool.decide_or]
    congr 1
    rw [List.mem_cons]
theorem sub_len {c a b d : Nat} : ∀ {x : List Nat}, (P22.sub c [a, b, d] x).length ≤ 3 * x.length
  | [] => Nat.le_refl _
  | e :: r => by
    have ih := sub_len (c := c) (a := a) (b := b) (d := d) (x := r)
    have ee : P22.sub c [a, b, d] (e :: r) = (if e = c then [a, b, d] else [e]) ++ P22.sub c [a, b, d] r := rfl
    rw [ee, List.length_append, List.length_cons]
    by_cases h : e = c
    · rw [if_pos h]
      show 3 + _ ≤ _
      omega
    · rw [if_neg h]
      show 1 + _ ≤ _
      omega
section
variable {P : Program} {w : World} {K : PySem.W.Frag} {mg : Str → Option Value} {base : Heap} {f : Addr} {fd : FuncData}
theorem sc25 : FnScope ["text"] ["text"] (defScope (top 24)) := fnScope_by (by decide +kernel)
/-- a list of words at t -/
def wordsV (ws : List P22.Wd) : HO := .lst (ws.map fun w => V.str (S w))
def spTW : Sp := fun vs H Q _ => ∃ a : List Nat, vs = [.str (S a)] ∧ a.length ≤ 200000 ∧ ∀ H' t, Same H H' → H t = none → H' t = some (wordsV (P22.words a)) → Q (.ref t) H'
theorem ok_tree_words (m : Mg K mg) (c_words_of : Cal P w K mg base 1 "words_of" spWords []) (F : Fn K "tree_words" 24 f fd) (g : mg "tree_words" = some (.ref f)) : Cal P w K mg base 2 "tree_words" spTW [] := by
  have sc := sc25
  refine calT F g sc (by decide +kernel) (by decide) (fun _ _ _ _ _ _ us hl => match us, hl with | [_], _ => rfl) ?_ fun cdv A outer s H vs Q E hr h => ?_
  · rintro vs H Q E ⟨a, rfl, _⟩
    rfl
  · obtain ⟨a, rfl, hl, q⟩ := h
    refine ⟨_, CwR.psst_one (CwR.pst_ret (pet_c c_words_of hr (by decide) (by rfl) (pat_cons (CwR.pet_replT (CwR.pet_replC (pv 0))) pat_nil))), ?_⟩
    simp only [L2.start, cxOf, tRet, tAndV, tOrV, tNotV, tCB, tCons, tNil, tVar, tC, tOp, tUn, tTest, tB, tIf, tIfS, tSeq, tAsg, tAnd, tOr, tNot, gName, tNext, tCall, tChain, rI, rI0, rEq, rNe, rGcd, rU, tM1, tM0, tSl, tFmtB, tJs, tPart, tNoPart, gTup, gCons, gNil, gSub, tTup, tLst, tPar, L2.rI, List.map_cons, List.map_nil, List.length_cons, List.length_nil, List.cons_append, List.nil_append, List.append_nil, List.getElem?_cons_zero, List.getElem?_cons_succ, List.set_cons_zero, List.set_cons_succ, Option.some.injEq, exists_eq_left, exists_eq_left', exists_eq_right, exists_and_left, exists_and_right, List.cons.injEq, and_true, true_and, V.int.injEq, V.str.injEq, V.bl.injEq, V.ref.injEq, List.replicate, Nat.reduceAdd, Nat.reduceSub, reduceCtorEq, false_and, and_false, if_true, if_false, Bool.false_eq_true, Bool.not_true, Bool.not_false, decide_eq_true_eq, tCallS, CwR.tReplC, spWords]
    have ey : ("(" : Str) = S [40] := by decide +kernel
    have ez : (" ( " : Str) = S [32, 40, 32] := by decide +kernel
    have fy : (")" : Str) = S [41] := by decide +kernel
    have fz : (" ) " : Str) = S [32, 41, 32] := by decide +kernel
    rw [ey, ez, fy, fz]
    rw [repl_S (by decide), repl_S (by decide)]
    have l1 : (StrLaws.replL [40] [32, 40, 32] a).length ≤ 3 * a.length := by rw [P22.repl_sub]; exact sub_len
    have l2 : (StrLaws.replL [41] [32, 41, 32] (StrLaws.replL [40] [32, 40, 32] a)).length ≤ 3 * (StrLaws.replL [40] [32, 40, 32] a).length := by rw [P22.repl_sub 41]; exact sub_len
    have l3 : ∀ a b c : Nat, ([a, b, c] : List Nat).length = 3 := fun _ _ _ => rfl
    rw [S_len, S_len, S_len, S_len, l3, l3]
    refine ⟨by omega, by omega, _, rfl, by omega, fun H' t sm ht e => q H' t sm ht ?_⟩
    rw [P22.prog_words] at e
    exact e
/-! values and names -/
def SIGNL : List Nat := ("abcdefghijklmnopqrstuvwxyz0123456789" : Str).cps.toList
def LETL : List Nat := ("abcdefghijklmnopqrstuvwxyz" : Str).cps.toList
def RESL : List (List Nat) := W22.reserved.map fun x => x.cps.toList
def valueB (w : List Nat) : Bool := decide (1 ≤ w.length ∧ w.length ≤ 8) && w.all fun c => decide (c ∈ SIGNL)
def nameB (w : List Nat) : Bool := valueB w && ((match w with | c :: _ => decide (c ∈ LETL) | [] => false) && !decide (w ∈ RESL))
theorem name_of {w : List Nat} (h : nameB w = true) : P22.Name w := by
  unfold nameB valueB at h
  simp only [Bool.and_eq_true, decide_eq_true_eq, List.all_eq_true] at h
  obtain ⟨⟨⟨h1, _⟩, h2⟩, _⟩ := h
  refine ⟨fun e => by rw [e] at h1; exact absurd h1 (by decide), fun c hc => ?_⟩
  have key : ∀ c ∈ SIGNL, P22.Sign c := by
    have : SIGNL.all (fun c => decide (c ≠ 32) && (decide (c ≠ 40) && decide (c ≠ 41))) = true := by decide +kernel
    intro c hc
    have := List.all_eq_true.mp this c hc
    simpa [P22.Sign] using this
  exact key c (h2 c hc)
theorem sc26 : FnScope ["word", "sign"] ["word"] (defScope (top 25)) := fnScope_by (by decide +kernel)
def spVal (B : List Nat → Bool) : Sp := fun vs H Q _ => ∃ a : List Nat, vs = [.str (S a)] ∧ a.length ≤ 1000000 ∧ Q (.bl (B a)) H
theorem ok_is_value (m : Mg K mg) (F : Fn K "is_value" 25 f fd) (g : mg "is_value" = some (.ref f)) : Cal P w K mg base 1 "is_value" (spVal valueB) [] := by
  have sc := sc26
  refine calD F g sc (fun _ _ _ _ _ _ us hl => match us, hl with | [_], _ => rfl) ?_ fun cdv A outer s H vs Q E hr h => ?_
  · rintro vs H Q E ⟨a, rfl, _⟩
    rfl
  · obtain ⟨a, rfl, hl, q⟩ := h
    refine ⟨_, (pss_cons (ps_if (pt_not (pt_chain op_le op_le pe_int (pe_callB call_len (by rfl) m.len_ boot_len (pa_cons (pv 0) pa_nil)) (pe_gc (v := .int 8) (by rfl) m.mostSigns)))
        (pss_one (ps_ret pe_bl))
        pss_nil)
      (pss_cons (ps_for pown rfl (pi_str (pv 0)) (pg_name (i := 1) sc.nd rfl (.inl rfl))
        (pss_one (ps_if (pt_cmpR op_notIn_sign (pv 1) (pe_gc (v := .str "abcdefghijklmnopqrstuvwxyz0123456789") rfl m.signs) rfl)
          (pss_one (ps_ret pe_bl))
          pss_nil)))
      (pss_one (ps_ret pe_bl)))), ?_⟩
    simp only [L2.start, cxOf, tRet, tAndV, tOrV, tNotV, tCB, tCons, tNil, tVar, tC, tOp, tUn, tTest, tB, tIf, tIfS, tSeq, tAsg, tAnd, tOr, tNot, gName, tNext, tCall, tChain, rI, rI0, rEq, rNe, rGcd, rU, tM1, tM0, tSl, tFmtB, tJs, tPart, tNoPart, gTup, gCons, gNil, gSub, tTup, tLst, tPar, L2.rI, List.map_cons, List.map_nil, List.length_cons, List.length_nil, List.cons_append, List.nil_append, List.append_nil, List.getElem?_cons_zero, List.getElem?_cons_succ, List.set_cons_zero, List.set_cons_succ, Option.some.injEq, exists_eq_left, exists_eq_left', exists_eq_right, exists_and_left, exists_and_right, List.cons.injEq, and_true, true_and, V.int.injEq, V.str.injEq, V.bl.injEq, V.ref.injEq, List.replicate, Nat.reduceAdd, Nat.reduceSub, reduceCtorEq, false_and, and_false, if_true, if_false, Bool.false_eq_true, Bool.not_true, Bool.not_false, decide_eq_true_eq]
    refine ⟨a.length, len_S (Nat.le_trans hl (by rw [sizeLine_eq]; decide)), ?_⟩
    by_cases h1 : (1 : Int) ≤ (a.length : Int)
    · rw [if_pos h1]
      by_cases h2 : (a.length : Int) ≤ 8
      · rw [if_neg (by simp [h2])]
        have ev : valueB a = a.all fun c => decide (c ∈ SIGNL) := by
          unfold valueB
          rw [decide_eq_true (show 1 ≤ a.length ∧ a.length ≤ 8 from ⟨by omega, by omega⟩), Bool.true_and]
        refine for_str_at (a := a) (H1 := H) (fun R k => ⟨_, rfl, k⟩) ⟨fun i σ' H' => H' = H ∧ (∃ y, σ' = [some (.str (S a)), y]) ∧ ∀ j, j < i → ∀ c, a[j]? = some c → c ∈ SIGNL, ⟨rfl, ⟨none, rfl⟩, fun j hj => absurd hj (Nat.not_lt_zero _)⟩, ?_, ?_⟩
        · rintro i c σ' H' hc ⟨rfl, ⟨y, rfl⟩, hP⟩
          simp only [L2.start, cxOf, tRet, tAndV, tOrV, tNotV, tCB, tCons, tNil, tVar, tC, tOp, tUn, tTest, tB, tIf, tIfS, tSeq, tAsg, tAnd, tOr, tNot, gName, tNext, tCall, tChain, rI, rI0, rEq, rNe, rGcd, rU, tM1, tM0, tSl, tFmtB, tJs, tPart, tNoPart, gTup, gCons, gNil, gSub, tTup, tLst, tPar, L2.rI, List.map_cons, List.map_nil, List.length_cons, List.length_nil, List.cons_append, List.nil_append, List.append_nil, List.getElem?_cons_zero, List.getElem?_cons_succ, List.set_cons_zero, List.set_cons_succ, Option.some.injEq, exists_eq_left, exists_eq_left', exists_eq_right, exists_and_left, exists_and_right, List.cons.injEq, and_true, true_and, V.int.injEq, V.str.injEq, V.bl.injEq, V.ref.injEq, List.replicate, Nat.reduceAdd, Nat.reduceSub, reduceCtorEq, false_and, and_false, if_true, if_false, Bool.false_eq_true, Bool.not_true, Bool.not_false, decide_eq_true_eq]
          refine ⟨c, rfl, ?_⟩
          by_cases hd : c ∈ SIGNL
          · rw [if_neg (by rw [decide_eq_true (show c ∈ (Str.ofString "abcdefghijklmnopqrstuvwxyz0123456789").cps.toList from hd)]; decide)]
            refine ⟨⟨_, rfl⟩, fun j hj c' hc' => ?_⟩
            by_cases ej : j = i
            · subst ej
              rw [hc] at hc'
              cases hc'
              exact hd
            · exact hP j (by omega) c' hc'
          · rw [if_pos (by rw [decide_eq_false (show ¬ c ∈ (Str.ofString "abcdefghijklmnopqrstuvwxyz0123456789").cps.toList from hd)]; decide)]
            rw [ev, List.all_eq_false.mpr ⟨c, List.mem_of_getElem? hc, by simp [hd]⟩] at q
            exact q
        · rintro σ' H' ⟨rfl, ⟨y, rfl⟩, hP⟩
          rw [ev, List.all_eq_true.mpr fun c hc => by
            obtain ⟨j, hj, e⟩ := List.mem_iff_getElem.mp hc
            exact decide_eq_true (hP j hj c (by rw [List.getElem?_eq_getElem hj, e]))] at q
          exact q
      · rw [if_pos (by simp [h2])]
        have ev : valueB a = false := by
          unfold valueB
          rw [decide_eq_false (fun z : 1 ≤ a.length ∧ a.length ≤ 8 => h2 (by omega)), Bool.false_and]
        rw [ev] at q
        exact q
    · rw [if_neg h1]
      have ev : valueB a = false := by
        unfold valueB
        rw [decide_eq_false (fun z : 1 ≤ a.length ∧ a.length ≤ 8 => h1 (by omega)), Bool.false_and]
      rw [ev] at q
      exact q
theorem sc27 : FnScope ["word"] ["word"] (defScope (top 26)) := fnScope_by (by decide +kernel)
theorem ok_is_name (m : Mg K mg) (c_is_value : Cal P w K mg base 1 "is_value" (spVal valueB) []) (F : Fn K "is_name" 26 f fd) (g : mg "is_name" = some (.ref f)) : Cal P w K mg base 2 "is_name" (spVal nameB) [] := by
  have sc := sc27
  refine calD F g sc (fun _ _ _ _ _ _ us hl => match us, hl with | [_], _ => rfl) ?_ fun cdv A outer s H vs Q E hr h => ?_
  · rintro vs H Q E ⟨a, rfl, _⟩
    rfl
  · obtain ⟨a, rfl, hl, q⟩ := h
    refine ⟨_, (pss_one (ps_ret (pe_and (pe_c c_is_value hr (by decide) (by rfl) (pa_cons (pv 0) pa_nil)) (pe_and (pe_cmpR op_in_sign (pe_ix ix_str (pv 0) pe_int (fun _ _ => rfl)) (pe_gc (v := .str "abcdefghijklmnopqrstuvwxyz") rfl m.letters) rfl) (pe_one (pe_cmpR op_notIn_seq (pv 0) (pe_gc (v := .ref (He.ga K "RESERVED")) rfl ⟨_, m.reserved, rfl⟩) (by rfl))))))), ?_⟩
    simp only [L2.start, cxOf, tRet, tAndV, tOrV, tNotV, tCB, tCons, tNil, tVar, tC, tOp, tUn, tTest, tB, tIf, tIfS, tSeq, tAsg, tAnd, tOr, tNot, gName, tNext, tCall, tChain, rI, rI0, rEq, rNe, rGcd, rU, tM1, tM0, tSl, tFmtB, tJs, tPart, tNoPart, gTup, gCons, gNil, gSub, tTup, tLst, tPar, L2.rI, List.map_cons, List.map_nil, List.length_cons, List.length_nil, List.cons_append, List.nil_append, List.append_nil, List.getElem?_cons_zero, List.getElem?_cons_succ, List.set_cons_zero, List.set_cons_succ, Option.some.injEq, exists_eq_left, exists_eq_left', exists_eq_right, exists_and_left, exists_and_right, List.cons.injEq, and_true, true_and, V.int.injEq, V.str.injEq, V.bl.injEq, V.ref.injEq, List.replicate, Nat.reduceAdd, Nat.reduceSub, reduceCtorEq, false_and, and_false, if_true, if_false, Bool.false_eq_true, Bool.not_true, Bool.not_false, decide_eq_true_eq, spVal]
    refine ⟨a, rfl, hl, ?_⟩
    by_cases hv : valueB a = true
    · rw [if_pos hv]
      have h1 : 1 ≤ a.length := by
        unfold valueB at hv
        simp only [Bool.and_eq_true, decide_eq_true_eq] at hv
        exact hv.1.1
      obtain ⟨c, r, rfl⟩ : ∃ c r, a = c :: r := by
        cases a with
        | nil => exact absurd h1 (by decide)
        | cons c r => exact ⟨c, r, rfl⟩
      refine ⟨_, 0, c, rfl, rfl, by rw [S_len, sizeLine_eq]; omega, at_zero, ?_⟩
      refine ⟨c, rfl, ?_⟩
      by_cases hc : c ∈ LETL
      · rw [if_pos (show c ∈ (Str.ofString "abcdefghijklmnopqrstuvwxyz").cps.toList from hc)]
        refine ⟨_, W22.reserved.map V.str, rfl, .inr (m.reservedT _), rfl, by decide +kernel, ?_⟩
        have e : (if true = true then !inV (V.str (S (c :: r))) (W22.reserved.map V.str) else inV (V.str (S (c :: r))) (W22.reserved.map V.str)) = nameB (c :: r) := by
          rw [if_pos rfl]
          unfold nameB
          rw [hv, Bool.true_and, show (match c :: r with | c :: _ => decide (c ∈ LETL) | [] => false) = true from decide_eq_true hc, Bool.true_and]
          congr 1
          exact inV_S _ _
        rw [e]
        exact q
      · rw [if_neg (show ¬ c ∈ (Str.ofString "abcdefghijklmnopqrstuvwxyz").cps.toList from hc)]
        have e : nameB (c :: r) = false := by
          unfold nameB
          rw [show (match c :: r with | c :: _ => decide (c ∈ LETL) | [] => false) = false from decide_eq_false hc, Bool.false_and, Bool.and_false]
        rw [e] at q
        exact q
    · rw [if_neg hv]
      have e : nameB a = false := by
        unfold nameB
        rw [show valueB a = false by simpa using hv, Bool.false_and]
      rw [e] at q
      exact q
end
end W22

set_option Elab.async false
set_option linter.all false
set_option maxRecDepth 100000
set_option maxHeartbeats 4000000
/-! C22: tree_text, tree_halves -/
namespace W22
open PySem PySem.Spec PyProof.Rows L2 Lay
open SX (S S_len S_cat S_tl)
open C8 (Cal pe_c pe_gc fnScope_by E0)
section
variable {P : Program} {w : World} {K : PySem.W.Frag} {mg : Str → Option Value} {base : Heap} {f : Addr} {fd : FuncData}
theorem sc30 : FnScope ["words", "told", "last", "word"] ["words"] (defScope (top 29)) := fnScope_by (by decide +kernel)
def spTT : Sp := fun vs H Q _ => ∃ (t : Addr) (ws : List P22.Wd), vs = [.ref t] ∧ H t = some (wordsV ws) ∧ (ws.map List.length).sum + ws.length ≤ 1000000 ∧ ∀ H', Same H H' → Q (.str (S (ws.foldl P22.wr ([], [40])).1)) H'
theorem ok_tree_text (m : Mg K mg) (F : Fn K "tree_text" 29 f fd) (g : mg "tree_text" = some (.ref f)) : Cal P w K mg base 1 "tree_text" spTT [] := by
  have sc := sc30
  refine calD F g sc (fun _ _ _ _ _ _ us hl => match us, hl with | [_], _ => rfl) ?_ fun cdv A outer s H vs Q E hr h => ?_
  · rintro vs H Q E ⟨t, ws, rfl, _⟩
    rfl
  · obtain ⟨t, ws, rfl, ht, hz, q⟩ := h
    refine ⟨_, (pss_cons (ps_set (i := 1) sc.nd rfl (.inl rfl) (pe_lst pa_nil))
      (pss_cons (ps_set (i := 2) sc.nd rfl (.inl rfl) pe_str)
      (pss_cons (ps_for pown rfl (pi_list (pv 0)) (pg_name (i := 3) sc.nd rfl (.inl rfl))
        (pss_cons (ps_if ((pw_and (pt_cmpR op_ne (pv 3) pe_str (nomark _)) (pw_and1 (pt_cmpR op_ne (pv 2) pe_str (nomark _))))).pt
          (pss_one (ps_expr (pe_bm PySem.F.plainAttrs_list PySem.F.slot_list_append PySem.F.type_list_append mt_append (pv 1) (pa_cons pe_str pa_nil))))
          pss_nil)
        (pss_cons (ps_expr (pe_bm PySem.F.plainAttrs_list PySem.F.slot_list_append PySem.F.type_list_append mt_append (pv 1) (pa_cons (pv 3) pa_nil)))
        (pss_one (ps_set (i := 2) sc.nd rfl (.inl rfl) (pv 3))))))
      (pss_one (ps_ret (pe_join pe_str (pv 1))))))), ?_⟩
    simp only [L2.start, cxOf, tRet, tAndV, tOrV, tNotV, tCB, tCons, tNil, tVar, tC, tOp, tUn, tTest, tB, tSeq, tAsg, tNot, gName, tNext, tCall, tChain, rI, rI0, rEq, rNe, rGcd, rU, tM1, tM0, tSl, tFmtB, tJs, tPart, tNoPart, gTup, gCons, gNil, gSub, tTup, tLst, tPar, L2.rI, List.map_cons, List.map_nil, List.length_cons, List.length_nil, List.cons_append, List.nil_append, List.append_nil, List.getElem?_cons_zero, List.getElem?_cons_succ, List.set_cons_zero, List.set_cons_succ, Option.some.injEq, exists_eq_left, exists_eq_left', exists_eq_right, exists_and_left, exists_and_right, List.cons.injEq, and_true, true_and, V.int.injEq, V.str.injEq, V.bl.injEq, V.ref.injEq, List.replicate, Nat.reduceAdd, Nat.reduceSub, reduceCtorEq, false_and, and_false, if_true, if_false, Bool.false_eq_true, Bool.not_true, Bool.not_false, decide_eq_true_eq, exists_false, or_false, false_or]
    refine ⟨small (by decide), fun p hp => ?_⟩
    have npt : t ≠ p := ne_of_none ht hp
    have e41 : (")" : Str) = S [41] := by decide +kernel
    have e40 : ("(" : Str) = S [40] := by decide +kernel
    have e32 : (" " : Str) = S [32] := by decide +kernel
    have e0 : ("" : Str) = S [] := by decide +kernel
    rw [e40, e41, e32, e0]
    refine for_list_at (l := t) (xs := ws.map fun w => V.str (S w)) (fun R k => ⟨_, rfl, k⟩) (SqL.of ((same_new hp) _ _ ht)) ⟨fun i σ' H' => ∃ (ps : List P22.Wd) (last : P22.Wd) (y : Option V), σ' = [some (.ref t), some (.ref p), some (.str (S last)), y] ∧ H' = upd H p (wordsV ps) ∧
      (ws.take i).foldl P22.wr ([], [40]) = (ps.flatten, last) ∧ ps.flatten.length ≤ ((ws.take i).map List.length).sum + i ∧ ps.length ≤ 2 * i, ⟨[], [40], none, rfl, rfl, rfl, Nat.zero_le _, Nat.zero_le _⟩, ?_, ?_, ?_⟩
    · rintro i σ' H' _ ⟨ps, last, y, rfl, rfl, _⟩
      exact SqL.of (by rw [upd_ne npt]; exact ht)
    · rintro i x σ' H' hx ⟨ps, last, y, rfl, rfl, hf, hl, hn⟩
      rw [List.getElem?_map] at hx
      obtain ⟨w0, hw, rfl⟩ : ∃ w0, ws[i]? = some w0 ∧ V.str (S w0) = x := by
        cases e : ws[i]? with
        | none => rw [e] at hx; cases hx
        | some w0 => rw [e] at hx; exact ⟨w0, rfl, Option.some.inj hx⟩
      have tk : ws.take (i + 1) = ws.take i ++ [w0] := by
        obtain ⟨hi, e⟩ := List.getElem?_eq_some_iff.mp hw
        rw [List.take_succ_eq_append_getElem hi, e]
      have hi : i < ws.length := (List.getElem?_eq_some_iff.mp hw).1
      have app : ∀ {qs : List P22.Wd} {u : P22.Wd}, upd (upd H p (wordsV qs)) p (.lst ((qs.map fun w => V.str (S w)) ++ [V.str (S u)])) = upd H p (wordsV (qs ++ [u])) := by
        intro qs u
        rw [upd_upd, wordsV, List.map_append]
        rfl
      have ty : ∀ {qs : List P22.Wd}, tyV K "list" (V.ref p) (upd H p (wordsV qs)) := .inl ⟨rfl, _, SqL.of upd_same⟩
      have szl := sizeLine_eq
      have big : ∀ {qs : List P22.Wd}, qs.length ≤ 2 * (i + 1) → (qs.map fun w => V.str (S w)).length < sizeLine := fun h => by
        rw [List.length_map, szl]
        omega
      have fw : (ws.take (i + 1)).foldl P22.wr ([], [40]) = P22.wr (ps.flatten, last) w0 := by
        rw [tk, List.foldl_append, hf]
        rfl
      have sw : ((ws.take (i + 1)).map List.length).sum = ((ws.take i).map List.length).sum + w0.length := by
        rw [tk, List.map_append, List.sum_append]
        simp
      simp only [L2.start, cxOf, tRet, tAndV, tOrV, tNotV, tCB, tCons, tNil, tVar, tC, tOp, tUn, tTest, tB, tIf, tIfS, tSeq, tAsg, tAnd, tOr, tNot, gName, tNext, tCall, tChain, rI, rI0, rEq, rNe, rGcd, rU, tM1, tM0, tSl, tFmtB, tJs, tPart, tNoPart, gTup, gCons, gNil, gSub, tTup, tLst, tPar, L2.rI, List.map_cons, List.map_nil, List.length_cons, List.length_nil, List.cons_append, List.nil_append, List.append_nil, List.getElem?_cons_zero, List.getElem?_cons_succ, List.set_cons_zero, List.set_cons_succ, Option.some.injEq, exists_eq_left, exists_eq_left', exists_eq_right, exists_and_left, exists_and_right, List.cons.injEq, and_true, true_and, V.int.injEq, V.str.injEq, V.bl.injEq, V.ref.injEq, List.replicate, Nat.reduceAdd, Nat.reduceSub, reduceCtorEq, false_and, and_false, if_true, if_false, Bool.false_eq_true, Bool.not_true, Bool.not_false, decide_eq_true_eq, exists_false, or_false, false_or, tDrop, tBM, rAppend]
      refine ⟨rfl, ?_⟩
      by_cases c1 : w0 = [41]
      · rw [if_neg (by simp [c1])]
        refine ⟨ty, _, upd_same, big (by omega), ps ++ [w0], w0, ⟨rfl, _, rfl⟩, app, ?_, ?_, ?_⟩
        · rw [fw, P22.wr, if_neg (fun z => z.1 c1)]
          simp
        · rw [sw, List.flatten_append, List.length_append, show ([w0] : List P22.Wd).flatten = w0 by simp]
          omega
        · rw [List.length_append]
          simp
          omega
      · have c1' : ¬ S w0 = S [41] := fun z => c1 (SX.S_inj z)
        rw [if_pos (by simp [c1'])]
        refine ⟨rfl, ?_⟩
        by_cases c2 : last = [40]
        · rw [if_neg (by simp [c2])]
          refine ⟨ty, _, upd_same, big (by omega), ps ++ [w0], w0, ⟨rfl, _, rfl⟩, app, ?_, ?_, ?_⟩
          · rw [fw, P22.wr, if_neg (fun z => z.2 c2)]
            simp
          · rw [sw, List.flatten_append, List.length_append, show ([w0] : List P22.Wd).flatten = w0 by simp]
            omega
          · rw [List.length_append]
            simp
            omega
        · have c2' : ¬ S last = S [40] := fun z => c2 (SX.S_inj z)
          rw [if_pos (by simp [c2'])]
          refine ⟨ty, _, upd_same, big (by omega), ?_⟩
          rw [app]
          refine ⟨ty, _, upd_same, big (by rw [List.length_append]; simp; omega), ps ++ [[32]] ++ [w0], w0, ⟨rfl, _, rfl⟩, app, ?_, ?_, ?_⟩
          · rw [fw, P22.wr, if_pos ⟨c1, c2⟩]
            simp
          · rw [sw, List.flatten_append, List.length_append, show ([w0] : List P22.Wd).flatten = w0 by simp, List.flatten_append, List.length_append, show ([[32]] : List P22.Wd).flatten.length = 1 from rfl]
            omega
          · rw [List.length_append, List.length_append]
            simp
            omega
    · rintro σ' H' ⟨ps, last, y, rfl, rfl, hf, hl, hn⟩
      simp only [L2.start, cxOf, tRet, tAndV, tOrV, tNotV, tCB, tCons, tNil, tVar, tC, tOp, tUn, tTest, tB, tIf, tIfS, tSeq, tAsg, tAnd, tOr, tNot, gName, tNext, tCall, tChain, rI, rI0, rEq, rNe, rGcd, rU, tM1, tM0, tSl, tFmtB, tJs, tPart, tNoPart, gTup, gCons, gNil, gSub, tTup, tLst, tPar, L2.rI, List.map_cons, List.map_nil, List.length_cons, List.length_nil, List.cons_append, List.nil_append, List.append_nil, List.getElem?_cons_zero, List.getElem?_cons_succ, List.set_cons_zero, List.set_cons_succ, Option.some.injEq, exists_eq_left, exists_eq_left', exists_eq_right, exists_and_left, exists_and_right, List.cons.injEq, and_true, true_and, V.int.injEq, V.str.injEq, V.bl.injEq, V.ref.injEq, List.replicate, Nat.reduceAdd, Nat.reduceSub, reduceCtorEq, false_and, and_false, if_true, if_false, Bool.false_eq_true, Bool.not_true, Bool.not_false, decide_eq_true_eq, exists_false, or_false, false_or]
      rw [List.length_map] at hf hl hn
      rw [List.take_length] at hf hl
      refine ⟨⟨_, rfl⟩, ps.map S, .inl (SqL.of (by rw [upd_same, wordsV, List.map_map]; rfl)), ?_, ?_⟩
      · rw [SX.lens, S_len]
        show (ps.map List.length).sum + ps.length * 0 ≤ _
        have e : (ps.map List.length).sum = ps.flatten.length := List.length_flatten.symm
        rw [e]
        omega
      · rw [SX.join_S]
        have e : TL.joinL [] ps = ps.flatten := by
          clear hf hl hn
          induction ps with
          | nil => rfl
          | cons a r ih =>
            cases r with
            | nil => simp [TL.joinL]
            | cons b r =>
              show a ++ ([] ++ TL.joinL [] (b :: r)) = a ++ (b :: r).flatten
              rw [ih]
              rfl
        rw [e]
        rw [hf] at q
        exact q _ (same_new hp)
end
end W22

set_option Elab.async false
set_option linter.all false
set_option maxRecDepth 100000
set_option maxHeartbeats 4000000
/-! D22: tree_halves -/
namespace W22
open PySem PySem.Spec PyProof.Rows L2 Lay
open SX (S S_len S_cat S_tl)
open C8 (Cal pe_c pe_gc fnScope_by E0)
section
variable {P : Program} {w : World} {K : PySem.W.Frag} {mg : Str → Option Value} {base : Heap} {f : Addr} {fd : FuncData}
theorem sc31 : FnScope ["words", "halves", "stack", "word", "right", "left"] ["words"] (defScope (top 30)) := fnScope_by (by decide +kernel)
/-- an entry of the halves: None, or a pair of texts -/
def HalfAt (H : Hp) : Option (List Nat × List Nat) → V → Prop
  | none => fun v => v = .non
  | some (l, r) => fun v => ∃ t, v = .ref t ∧ H t = some (.tup [.str (S l), .str (S r)])
/-- the dict of the halves -/
def HalvesAt (H : Hp) (a : Addr) (es : List P22.Ent) : Prop := ∃ kvs : List (Key × V), H a = some (.dK kvs) ∧ kvs.map (·.1) = es.map (fun e => (.inr (S e.1) : Key)) ∧ ∀ (i : Nat) e kv, es[i]? = some e → kvs[i]? = some kv → HalfAt H e.2 kv.2
theorem HalfAt.mono {H H' : Hp} {x : Option (List Nat × List Nat)} {v : V} (h : HalfAt H x v) (k : ∀ t l r, H t = some (.tup [.str (S l), .str (S r)]) → H' t = some (.tup [.str (S l), .str (S r)])) : HalfAt H' x v := by
  match x, h with
  | none, h => exact h
  | some (l, r), ⟨t, e, ht⟩ => exact ⟨t, e, k t l r ht⟩
theorem HalvesAt.same {H H' : Hp} {a : Addr} {es : List P22.Ent} (h : HalvesAt H a es) (e : Same H H') : HalvesAt H' a es := by
  obtain ⟨kvs, h1, h2, h3⟩ := h
  exact ⟨kvs, e _ _ h1, h2, fun i e' kv g1 g2 => (h3 i e' kv g1 g2).mono fun t l r z => e _ _ z⟩
/-- a list beside the halves is written -/
theorem HalvesAt.lst {H : Hp} {a p : Addr} {es : List P22.Ent} {xs ys : List V} (h : HalvesAt H a es) (hp : H p = some (.lst xs)) : HalvesAt (upd H p (.lst ys)) a es := by
  obtain ⟨kvs, h1, h2, h3⟩ := h
  refine ⟨kvs, by rw [upd_ne (ne_of h1 hp (fun z => by cases z))]; exact h1, h2, fun i e' kv g1 g2 => (h3 i e' kv g1 g2).mono fun t l r z => ?_⟩
  rw [upd_ne (ne_of z hp (fun z => by cases z))]
  exact z
theorem HalvesAt.put {H : Hp} {a : Addr} {es : List P22.Ent} {u : List Nat} {x : Option (List Nat × List Nat)} {v : V} (h : HalvesAt H a es) (fr : ∀ e ∈ es, e.1 ≠ u) (hx : HalfAt H x v) : ∃ kvs, H a = some (.dK kvs) ∧ kvs.length = es.length ∧ HalvesAt (upd H a (.dK (putK kvs (.inr (S u)) v))) a (es ++ [(u, x)]) := by
  obtain ⟨kvs, h1, h2, h3⟩ := h
  have len : kvs.length = es.length := by
    have := congrArg List.length h2
    simpa using this
  have nw : valV kvs (.inr (S u) : Key) = none := by
    unfold valV
    rw [Option.map_eq_none_iff, List.find?_eq_none]
    intro kv hkv
    rw [decide_eq_true_eq]
    intro e
    have hm : kv.1 ∈ es.map (fun e => (.inr (S e.1) : Key)) := by rw [← h2]; exact List.mem_map.mpr ⟨kv, hkv, rfl⟩
    obtain ⟨e', he', e2⟩ := List.mem_map.mp hm
    rw [e] at e2
    exact fr e' he' (SX.S_inj (Sum.inr.inj e2))
  refine ⟨kvs, h1, len, kvs ++ [(.inr (S u), v)], by rw [upd_same, putK_new v nw], by rw [List.map_append, List.map_append, h2]; rfl, ?_⟩
  have keep : ∀ {x v}, HalfAt H x v → HalfAt (upd H a (.dK (putK kvs (.inr (S u)) v))) x v := fun z => z.mono fun t l r q => by
    rw [upd_ne (ne_of q h1 (fun z => by cases z))]
    exact q
  intro i e' kv g1 g2
  have keep2 : ∀ {x w}, HalfAt H x w → HalfAt (upd H a (.dK (putK kvs (.inr (S u)) v))) x w := fun z => z.mono fun t l r q => by
    rw [upd_ne (ne_of q h1 (fun z => by cases z))]
    exact q
  by_cases hi : i < es.length
  · rw [List.getElem?_append_left hi] at g1
    rw [List.getElem?_append_left (by omega)] at g2
    exact keep2 (h3 i e' kv g1 g2)
  · by_cases hi2 : i = es.length
    · subst hi2
      rw [List.getElem?_append_right (Nat.le_refl _), Nat.sub_self] at g1
      rw [List.getElem?_append_right (by omega), len, Nat.sub_self] at g2
      cases g1
      cases g2
      exact keep2 hx
    · rw [List.getElem?_eq_none (by rw [List.length_append, List.length_singleton]; omega)] at g1
      cases g1
theorem js5 {i j : Nat} {σ : L2.St} {H : Hp} {R : Str → Hp → Prop} {l r : List Nat} (hl : σ[i]? = some (some (.str (S l)))) (hr : σ[j]? = some (some (.str (S r)))) (hb : (P22.joinT l r).length ≤ 100000) (k : R (S (P22.joinT l r)) H) :
    tJs [tC (.str "("), tFmtB (tVar i), tC (.str " "), tFmtB (tVar j), tC (.str ")")] Str.empty σ H R := by
  have szl := sizeLine_eq
  have e41 : (")" : Str) = S [41] := by decide +kernel
  have e40 : ("(" : Str) = S [40] := by decide +kernel
  have e32 : (" " : Str) = S [32] := by decide +kernel
  have e0 : Str.empty = S [] := rfl
  rw [e41, e40, e32, e0]
  have hb2 : l.length + r.length + 3 ≤ 100000 := by
    simp only [P22.joinT, List.length_cons, List.length_append, List.length_nil] at hb
    omega
  simp only [tJs, tFmtB, tVar, tC, S_cat, S_len, V.str.injEq, exists_eq_left', List.length_append, List.length_cons, List.length_nil, List.nil_append]
  have fin : S [40] ++ S l ++ S [32] ++ S r ++ S [41] = S (P22.joinT l r) := by
    simp only [S_cat]
    congr 1
    simp [P22.joinT]
  refine ⟨by rw [szl]; omega, _, hl, .inl ⟨S l, rfl, ?_, ?_, ?_, _, hr, .inl ⟨S r, rfl, ?_, ?_, ?_, by rw [fin]; exact k⟩⟩⟩
  all_goals
    simp only [S_cat, S_len, List.length_append, List.length_cons, List.length_nil, szl]
    omega
theorem same_upd {H H' : Hp} {p : Addr} {o : HO} (s : Same H H') (n : H p = none) : Same H (upd H' p o) := fun b u e => by
  rw [upd_ne (ne_of_none e n)]
  exact s _ _ e
def spTH : Sp := fun vs H Q _ => ∃ (t : Addr) (T : P22.Tr), vs = [.ref t] ∧ H t = some (wordsV (P22.toks T)) ∧ P22.Ok T ∧ (P22.leaves T).Nodup ∧ (P22.spell T).length ≤ 100000 ∧ (P22.toks T).length ≤ 100000 ∧
  ∀ H' a, Same H H' → H a = none → HalvesAt H' a ((P22.nodes T).map P22.ent) → Q (.ref a) H'
theorem ok_tree_halves (m : Mg K mg) (dk : DigK K) (F : Fn K "tree_halves" 30 f fd) (g : mg "tree_halves" = some (.ref f)) : Cal P w K mg base 1 "tree_halves" spTH [] := by
  have sc := sc31
  refine calD F g sc (fun _ _ _ _ _ _ us hl => match us, hl with | [_], _ => rfl) ?_ fun cdv A outer s H vs Q E hr h => ?_
  · rintro vs H Q E ⟨t, T, rfl, _⟩
    rfl
  · obtain ⟨t, T, rfl, ht, ok, nd, hB, hT, q⟩ := h
    have room1 : (A.deeper (envOfC "tree_halves" (defScope (top 30)) s.heap.objs.size f cdv)).units + 1 < cLine := by have := hr.un; omega
    refine ⟨_, (pss_cons (ps_set (i := 1) sc.nd rfl (.inl rfl) pe_dnewK)
      (pss_cons (ps_set (i := 2) sc.nd rfl (.inl rfl) (pe_lst pa_nil))
      (pss_cons (ps_for pown rfl (pi_list (pv 0)) (pg_name (i := 3) sc.nd rfl (.inl rfl))
        (pss_one (ps_if (pt_cmpR op_eq (pv 3) pe_str (nomark _))
          (pss_cons (ps_set (i := 4) sc.nd rfl (.inl rfl) (pe_bm0 PySem.F.plainAttrs_list PySem.F.slot_list_pop PySem.F.type_list_pop mt_pop (pv 2)))
          (pss_cons (ps_set (i := 5) sc.nd rfl (.inl rfl) (pe_bm0 PySem.F.plainAttrs_list PySem.F.slot_list_pop PySem.F.type_list_pop mt_pop (pv 2)))
          (pss_cons (ps_expr (pe_bm PySem.F.plainAttrs_list PySem.F.slot_list_append PySem.F.type_list_append mt_append (pv 2) (pa_cons (pe_joined (.cons pe_str (.cons (pe_fmtB rfl dk (pv 5)) (.cons pe_str (.cons (pe_fmtB rfl dk (pv 4)) (.cons pe_str PJ.nil)))))) pa_nil)))
          (pss_one (ps_asg (pe_tup (pa_cons (pv 5) (pa_cons (pv 4) pa_nil))) (pg_sub (pv 1) (pe_ix ix_list (pv 2) (pe_un un_neg pe_int) (fun _ _ => rfl)) (set_dict room1)))))))
          (pss_one (ps_if (pt_cmpR op_ne (pv 3) pe_str (nomark _))
            (pss_cons (ps_expr (pe_bm PySem.F.plainAttrs_list PySem.F.slot_list_append PySem.F.type_list_append mt_append (pv 2) (pa_cons (pv 3) pa_nil)))
            (pss_one (ps_asg pe_non (pg_sub (pv 1) (pv 3) (set_dict room1)))))
            pss_nil)))))
      (pss_one (ps_ret (pv 1)))))), ?_⟩
    have e41 : (")" : Str) = S [41] := by decide +kernel
    have e40 : ("(" : Str) = S [40] := by decide +kernel
    have e32 : (" " : Str) = S [32] := by decide +kernel
    simp only [L2.start, cxOf, tRet, tAndV, tOrV, tNotV, tCB, tCons, tNil, tVar, tC, tOp, tUn, tTest, tB, tSeq, tAsg, tNot, gName, tNext, tCall, tChain, rI, rI0, rEq, rNe, rGcd, rU, tM1, tM0, tSl, tPart, tNoPart, gTup, gCons, gNil, gSub, tTup, tLst, tPar, L2.rI, List.map_cons, List.map_nil, List.length_cons, List.length_nil, List.cons_append, List.nil_append, List.append_nil, List.getElem?_cons_zero, List.getElem?_cons_succ, List.set_cons_zero, List.set_cons_succ, Option.some.injEq, exists_eq_left, exists_eq_left', exists_eq_right, exists_and_left, exists_and_right, List.cons.injEq, and_true, true_and, V.int.injEq, V.str.injEq, V.bl.injEq, V.ref.injEq, List.replicate, Nat.reduceAdd, Nat.reduceSub, reduceCtorEq, false_and, and_false, if_true, if_false, Bool.false_eq_true, Bool.not_true, Bool.not_false, decide_eq_true_eq, exists_false, or_false, false_or, tDNewK]
    refine fun a ha => ⟨small (by decide), fun p hp => ?_⟩
    have nap : a ≠ p := fun z => by rw [← z, upd_same] at hp; cases hp
    have hp0 : H p = none := by rw [upd_ne (Ne.symm nap)] at hp; exact hp
    have szl := sizeLine_eq
    have B : (P22.spell T).length ≤ 100000 := hB
    refine for_list_at (l := t) (xs := (P22.toks T).map fun w => V.str (S w)) (fun R k => ⟨_, rfl, k⟩) (SqL.of ((same_new hp) _ _ ((same_new ha) _ _ ht))) ⟨fun i σ' H' => ∃ (st : List (List Nat)) (en : List P22.Ent) (y3 y4 y5 : Option V), σ' = [some (.ref t), some (.ref a), some (.ref p), y3, y4, y5] ∧ Same H H' ∧ H' p = some (wordsV st) ∧ HalvesAt H' a en ∧
      P22.Fits 100000 ((P22.toks T).drop i) (st, en) ∧ ((P22.toks T).drop i).foldl P22.hv (st, en) = ([P22.spell T], (P22.nodes T).map P22.ent) ∧ en.length ≤ i ∧ st.length ≤ i,
      ⟨[], [], none, none, none, rfl, (same_new ha).trans (same_new hp), upd_same, ⟨[], by rw [upd_ne nap, upd_same], rfl, fun i e kv z _ => by cases z⟩, P22.fits ok nd B, by rw [List.drop_zero, P22.hv_toks ok]; simp, Nat.le_refl _, Nat.le_refl _⟩, ?_, ?_, ?_⟩
    · rintro i σ' H' _ ⟨st, en, y3, y4, y5, rfl, sm, _⟩
      exact SqL.of (sm _ _ ht)
    · rintro i x σ' H' hx ⟨st, en, y3, y4, y5, rfl, sm, hst, hen, fit, fol, l1, l2⟩
      rw [List.getElem?_map] at hx
      obtain ⟨w0, hw, rfl⟩ : ∃ w0, (P22.toks T)[i]? = some w0 ∧ V.str (S w0) = x := by
        cases e : (P22.toks T)[i]? with
        | none => rw [e] at hx; cases hx
        | some w0 => rw [e] at hx; exact ⟨w0, rfl, Option.some.inj hx⟩
      obtain ⟨hi, ew⟩ := List.getElem?_eq_some_iff.mp hw
      have dr : (P22.toks T).drop i = w0 :: (P22.toks T).drop (i + 1) := by rw [List.drop_eq_getElem_cons hi, ew]
      rw [dr] at fit fol
      obtain ⟨case_, fit⟩ := fit
      rw [List.foldl_cons] at fol
      rcases case_ with rfl | ⟨pl, fr, bl⟩ | ⟨rfl, st0, l, r, est, fr, bl⟩
      · simp only [L2.start, cxOf, tRet, tAndV, tOrV, tNotV, tCB, tCons, tNil, tVar, tC, tOp, tUn, tTest, tB, tIf, tIfS, tSeq, tAsg, tAnd, tOr, tNot, gName, tNext, tCall, tChain, rI, rI0, rEq, rNe, rGcd, rU, tM1, tM0, tSl, tPart, tNoPart, gTup, gCons, gNil, gSub, tTup, tLst, tPar, L2.rI, List.map_cons, List.map_nil, List.length_cons, List.length_nil, List.cons_append, List.nil_append, List.append_nil, List.getElem?_cons_zero, List.getElem?_cons_succ, List.set_cons_zero, List.set_cons_succ, Option.some.injEq, exists_eq_left, exists_eq_left', exists_eq_right, exists_and_left, exists_and_right, List.cons.injEq, and_true, true_and, V.int.injEq, V.str.injEq, V.bl.injEq, V.ref.injEq, List.replicate, Nat.reduceAdd, Nat.reduceSub, reduceCtorEq, false_and, and_false, if_true, if_false, Bool.false_eq_true, Bool.not_true, Bool.not_false, decide_eq_true_eq, exists_false, or_false, false_or, tDrop, tBM, tBM0, rAppend, rPop, rSetD]
        rw [e41, e40]
        refine ⟨rfl, ?_⟩
        rw [if_neg (fun z => absurd (SX.S_inj z) (by decide))]
        refine ⟨rfl, ?_⟩
        rw [if_neg (by simp)]
        exact ⟨⟨_, rfl⟩, sm, st, hst, en, hen, fit, fol, by omega, by omega⟩
      · simp only [L2.start, cxOf, tRet, tAndV, tOrV, tNotV, tCB, tCons, tNil, tVar, tC, tOp, tUn, tTest, tB, tIf, tIfS, tSeq, tAsg, tAnd, tOr, tNot, gName, tNext, tCall, tChain, rI, rI0, rEq, rNe, rGcd, rU, tM1, tM0, tSl, tPart, tNoPart, gTup, gCons, gNil, gSub, tTup, tLst, tPar, L2.rI, List.map_cons, List.map_nil, List.length_cons, List.length_nil, List.cons_append, List.nil_append, List.append_nil, List.getElem?_cons_zero, List.getElem?_cons_succ, List.set_cons_zero, List.set_cons_succ, Option.some.injEq, exists_eq_left, exists_eq_left', exists_eq_right, exists_and_left, exists_and_right, List.cons.injEq, and_true, true_and, V.int.injEq, V.str.injEq, V.bl.injEq, V.ref.injEq, List.replicate, Nat.reduceAdd, Nat.reduceSub, reduceCtorEq, false_and, and_false, if_true, if_false, Bool.false_eq_true, Bool.not_true, Bool.not_false, decide_eq_true_eq, exists_false, or_false, false_or, tDrop, tBM, tBM0, rAppend, rPop, rSetD]
        rw [e41, e40]
        refine ⟨rfl, ?_⟩
        rw [if_neg (fun z => pl.2 (SX.S_inj z))]
        refine ⟨rfl, ?_⟩
        rw [if_pos (by simpa using fun z => pl.1 (SX.S_inj z))]
        rw [P22.hv_plain pl] at fit fol
        obtain ⟨kvs, hk, lk, hnew⟩ := (hen.lst hst (ys := st.map (fun w => V.str (S w)) ++ [V.str (S w0)])).put fr (x := none) (v := .non) rfl
        refine ⟨.inl ⟨rfl, _, SqL.of hst⟩, _, hst, by rw [List.length_map, szl]; omega, _, DPut.k (k := .inr (S w0)) hk (by rw [lk, szl]; omega), ⟨_, rfl⟩, same_upd (same_upd sm hp0) ha, st ++ [w0], ?_, _, hnew, fit, fol, by simp; omega, by simp; omega⟩
        rw [upd_ne (Ne.symm nap), upd_same, wordsV, List.map_append]
        rfl
      · subst est
        rw [P22.hv_close] at fit fol
        have hst2 : H' p = some (.lst (st0.map (fun w => V.str (S w)) ++ [V.str (S l)] ++ [V.str (S r)])) := by
          rw [hst, wordsV, List.map_append, List.map_append]
          rfl
        have l3 : st0.length + 2 ≤ i := by simpa using l2
        simp only [L2.start, cxOf, tRet, tAndV, tOrV, tNotV, tCB, tCons, tNil, tVar, tC, tOp, tUn, tTest, tB, tIf, tIfS, tSeq, tAsg, tAnd, tOr, tNot, gName, tNext, tCall, tChain, rI, rI0, rEq, rNe, rGcd, rU, tM1, tM0, tSl, tPart, tNoPart, gTup, gCons, gNil, gSub, tTup, tLst, tPar, L2.rI, List.map_cons, List.map_nil, List.length_cons, List.length_nil, List.cons_append, List.nil_append, List.append_nil, List.getElem?_cons_zero, List.getElem?_cons_succ, List.set_cons_zero, List.set_cons_succ, Option.some.injEq, exists_eq_left, exists_eq_left', exists_eq_right, exists_and_left, exists_and_right, List.cons.injEq, and_true, true_and, V.int.injEq, V.str.injEq, V.bl.injEq, V.ref.injEq, List.replicate, Nat.reduceAdd, Nat.reduceSub, reduceCtorEq, false_and, and_false, if_true, if_false, Bool.false_eq_true, Bool.not_true, Bool.not_false, decide_eq_true_eq, exists_false, or_false, false_or, tDrop, tBM, tBM0, rAppend, rPop, rSetD]
        rw [e41]
        refine ⟨rfl, ?_⟩
        rw [if_pos rfl]
        refine ⟨.inl ⟨rfl, _, SqL.of hst2⟩, _, hst2, V.str (S r), by simp, .inl ⟨rfl, _, SqL.of upd_same⟩, _, upd_same, V.str (S l), by simp, .inl ⟨rfl, _, SqL.of upd_same⟩, ?_⟩
        have dl : (st0.map (fun w => V.str (S w)) ++ [V.str (S l)] ++ [V.str (S r)]).dropLast.dropLast = st0.map (fun w => V.str (S w)) := by
          rw [List.dropLast_concat, List.dropLast_concat]
        rw [upd_upd, dl]
        refine js5 rfl rfl bl ?_
        refine ⟨_, upd_same, by rw [List.length_map, szl]; omega, small (by decide), fun t2 h2 => ?_⟩
        rw [upd_upd] at h2 ⊢
        have hw2 : wordsV (st0 ++ [P22.joinT l r]) = .lst (st0.map (fun w => V.str (S w)) ++ [V.str (S (P22.joinT l r))]) := by
          rw [wordsV, List.map_append]
          rfl
        rw [← hw2] at h2 ⊢
        have ntp : t2 ≠ p := fun z => by rw [z, upd_same] at h2; cases h2
        have hs3 : (upd (upd H' p (wordsV (st0 ++ [P22.joinT l r]))) t2 (.tup [V.str (S l), V.str (S r)])) p = some (wordsV (st0 ++ [P22.joinT l r])) := by rw [upd_ne (Ne.symm ntp), upd_same]
        have sm3 : Same H (upd (upd H' p (wordsV (st0 ++ [P22.joinT l r]))) t2 (.tup [V.str (S l), V.str (S r)])) := (same_upd sm hp0).trans (same_new h2)
        have hen3 : HalvesAt (upd (upd H' p (wordsV (st0 ++ [P22.joinT l r]))) t2 (.tup [V.str (S l), V.str (S r)])) a en := (hen.lst hst).same (same_new h2)
        obtain ⟨kvs, hk, lk, hnew⟩ := hen3.put fr (x := some (l, r)) (v := .ref t2) ⟨t2, rfl, upd_same⟩
        refine ⟨p, st0.map (fun w => V.str (S w)) ++ [V.str (S (P22.joinT l r))], -1, V.str (S (P22.joinT l r)), rfl, rfl, SqL.of (by rw [hs3, hw2]), ?_, ?_⟩
        · unfold atI ixN
          rw [if_neg (by decide), if_pos (by rw [List.length_append, List.length_singleton]; omega), List.length_append, List.length_singleton]
          show (st0.map (fun w => V.str (S w)) ++ [V.str (S (P22.joinT l r))])[((-1 : Int) + ((st0.map (fun w => V.str (S w))).length + 1 : Nat)).toNat]? = _
          rw [show ((-1 : Int) + ((st0.map (fun w => V.str (S w))).length + 1 : Nat)).toNat = (st0.map (fun w => V.str (S w))).length by omega, List.getElem?_append_right (Nat.le_refl _), Nat.sub_self]
          rfl
        · refine ⟨_, DPut.k (k := .inr (S (P22.joinT l r))) hk (by rw [lk, szl]; omega), ⟨_, rfl⟩, same_upd sm3 ha, st0 ++ [P22.joinT l r], ?_, _, hnew, fit, fol, by simp; omega, by simp; omega⟩
          rw [upd_ne (Ne.symm nap)]
          exact hs3
    · rintro σ' H' ⟨st, en, y3, y4, y5, rfl, sm, hst, hen, fit, fol, _⟩
      rw [List.length_map, List.drop_length] at fol
      cases fol
      simp only [L2.start, cxOf, tRet, tAndV, tOrV, tNotV, tCB, tCons, tNil, tVar, tC, tOp, tUn, tTest, tB, tIf, tIfS, tSeq, tAsg, tAnd, tOr, tNot, gName, tNext, tCall, tChain, rI, rI0, rEq, rNe, rGcd, rU, tM1, tM0, tSl, tPart, tNoPart, gTup, gCons, gNil, gSub, tTup, tLst, tPar, L2.rI, List.map_cons, List.map_nil, List.length_cons, List.length_nil, List.cons_append, List.nil_append, List.append_nil, List.getElem?_cons_zero, List.getElem?_cons_succ, List.set_cons_zero, List.set_cons_succ, Option.some.injEq, exists_eq_left, exists_eq_left', exists_eq_right, exists_and_left, exists_and_right, List.cons.injEq, and_true, true_and, V.int.injEq, V.str.injEq, V.bl.injEq, V.ref.injEq, List.replicate, Nat.reduceAdd, Nat.reduceSub, reduceCtorEq, false_and, and_false, if_true, if_false, Bool.false_eq_true, Bool.not_true, Bool.not_false, decide_eq_true_eq, exists_false, or_false, false_or]
      exact q H' a sm ha hen
end
end W22

set_option Elab.async false
set_option linter.all false
set_option maxRecDepth 100000
set_option maxHeartbeats 4000000
/-! E22: tree_names -/
namespace W22
open PySem PySem.Spec PyProof.Rows L2 Lay
open SX (S S_len S_cat S_tl)
open C8 (Cal pe_c pe_gc fnScope_by E0)
def rIxN (K : PySem.W.Frag) : V → V → Hp → VK → Prop := fun x y H Q => ∃ p xs i v, x = .ref p ∧ y = .int i ∧ i < 0 ∧ SqL K H p xs ∧ atI xs i = some v ∧ Q v H
theorem get_neg {X : Cx} : PGet X (rIxN X.K) := by
  rintro pins s σ H x y v u Q I rx ry ⟨p, xs, i, z, rfl, rfl, neg, hq, he, q⟩
  cases rx
  obtain ⟨t, rfl⟩ := ry
  obtain ⟨its, r, pl, hz⟩ := I.list hq
  obtain ⟨j, h1, h2, h3, h4, h5⟩ := atI_get he
  obtain ⟨w, ew, rw'⟩ := r.get h2
  have hl := r.length
  have hn := line63
  have hj : (i + (its.toArray.size : Int)).toNat = j := by
    rw [seqIndex_neg neg h4] at h1; rw [List.size_toArray, ← hl]; exact Option.some.inj h1
  exact wpAny_getItem_list_neg (x := w) pl.isList neg (by rw [List.size_toArray] <;> omega) (by omega) (by rw [hj]; simpa using ew) ⟨z, H, I, rw', q⟩
theorem snoc_or {α : Type} (xs : List α) : xs = [] ∨ ∃ ys h, xs = ys ++ [h] := by
  rcases List.eq_nil_or_concat xs with h | ⟨ys, h, e⟩
  · exact .inl h
  · exact .inr ⟨ys, h, by rw [e, List.concat_eq_append]⟩
def cntV (xs : List Nat) : HO := .lst (xs.map fun (n : Nat) => V.int (n : Int))
theorem dp_ints {K : PySem.W.Frag} {H : Hp} : ∀ xs : List Nat, DpAll K H (xs.map fun (n : Nat) => V.int (n : Int)) ((xs.map fun (n : Nat) => (n : Int)).map PyData.int)
  | [] => .nil
  | x :: xs => .cons (.int _) (dp_ints xs)
theorem eq_nil {K : PySem.W.Frag} {H : Hp} {a l : Addr} {xs : List Nat} {Q : VK} (ha : H a = some (cntV xs)) (hl : H l = some (.lst [])) (q : Q (.bl (decide (xs = []))) H) : rEqD K (.ref a) (.ref l) H Q := by
  refine ⟨_, .list [], .lst (SqL.of ha) (dp_ints xs), .lst (SqL.of hl) .nil, PySem.W.ke_shaped_ints _, PySem.W.ke_shaped_ints [], ?_⟩
  have e : PyData.eqv (.list ((xs.map fun (n : Nat) => (n : Int)).map PyData.int)) (.list []) = decide (xs = []) := by
    cases xs <;> rfl
  rw [e]
  exact q
section
variable {P : Program} {w : World} {K : PySem.W.Frag} {mg : Str → Option Value} {base : Heap} {f : Addr} {fd : FuncData}
theorem sc29 : FnScope ["words", "names", "halves", "ended", "word"] ["words"] (defScope (top 28)) := fnScope_by (by decide +kernel)
/-- the names of words that are a tree, or None -/
def spNames : Sp := fun vs H Q _ => ∃ (t : Addr) (ws : List P22.Wd), vs = [.ref t] ∧ H t = some (wordsV ws) ∧ ws.length < 4000 ∧ (∀ u ∈ ws, u.length ≤ 1000000) ∧
  match P22.namesOf nameB ws with
  | none => ∀ H', Same H H' → Q .non H'
  | some ns => ∀ H' a, Same H H' → H a = none → H' a = some (wordsV ns) → Q (.ref a) H'
theorem ok_tree_names (m : Mg K mg) (c_is_name : Cal P w K mg base 2 "is_name" (spVal nameB) []) (F : Fn K "tree_names" 28 f fd) (g : mg "tree_names" = some (.ref f)) : Cal P w K mg base 3 "tree_names" spNames [] := by
  have sc := sc29
  refine calD F g sc (fun _ _ _ _ _ _ us hl => match us, hl with | [_], _ => rfl) ?_ fun cdv A outer s H vs Q E hr h => ?_
  · rintro vs H Q E ⟨t, ws, rfl, _⟩
    rfl
  · obtain ⟨t, ws, rfl, ht, few, short, q⟩ := h
    have room64 : (A.deeper (envOfC "tree_names" (defScope (top 28)) s.heap.objs.size f cdv)).units + 64 < cLine := by have := hr.un; omega
    refine ⟨_, (pss_cons (ps_set (i := 1) sc.nd rfl (.inl rfl) (pe_lst pa_nil))
      (pss_cons (ps_set (i := 2) sc.nd rfl (.inl rfl) (pe_lst pa_nil))
      (pss_cons (ps_set (i := 3) sc.nd rfl (.inl rfl) pe_bl)
      (pss_cons (ps_for pown rfl (pi_list (pv 0)) (pg_name (i := 4) sc.nd rfl (.inl rfl))
        (pss_cons (ps_if (pt_val (pv 3))
          (pss_one (ps_ret pe_non))
          pss_nil)
        (pss_cons (ps_if (pt_cmpR op_eq (pv 4) pe_str (nomark _))
          (pss_cons (ps_expr (pe_bm PySem.F.plainAttrs_list PySem.F.slot_list_append PySem.F.type_list_append mt_append (pv 2) (pa_cons pe_int pa_nil)))
          (pss_one ps_continue))
          pss_nil)
        (pss_cons (ps_if (pt_cmpR op_ne (pv 4) pe_str (nomark _))
          (pss_cons (ps_if (pt_not (pt_val (pe_c c_is_name hr (by decide) (by rfl) (pa_cons (pv 4) pa_nil))))
            (pss_one (ps_ret pe_non))
            pss_nil)
          (pss_one (ps_expr (pe_bm PySem.F.plainAttrs_list PySem.F.slot_list_append PySem.F.type_list_append mt_append (pv 1) (pa_cons (pv 4) pa_nil)))))
          (pss_one (ps_if ((pw_or (pt_cmpR (op_eqD room64) (pv 2) (pe_lst pa_nil) (nomark _)) (pw_or1 (pt_cmpR op_ne (pe_bm0 PySem.F.plainAttrs_list PySem.F.slot_list_pop PySem.F.type_list_pop mt_pop (pv 2)) pe_int (nomark _))))).pt
            (pss_one (ps_ret pe_non))
            pss_nil)))
        (pss_one (ps_if (pt_cmpR (op_eqD room64) (pv 2) (pe_lst pa_nil) (nomark _))
          (pss_one (ps_set (i := 3) sc.nd rfl (.inl rfl) pe_bl))
          (pss_one (ps_augS (pv 2) (pe_un un_neg pe_int) get_neg pe_int ip_add set_list))))))))
      (pss_cons (ps_if ((pw_or (pt_not (pt_val (pv 3))) (pw_or1 (pt_cmpR op_ne (pe_lenTexts rfl (by rfl) m.len_ (by rfl) m.set_ (pv 1)) (pe_callB call_len (by rfl) m.len_ boot_len (pa_cons (pv 1) pa_nil)) (nomark _))))).pt
        (pss_one (ps_ret pe_non))
        pss_nil)
      (pss_one (ps_ret (pv 1)))))))), ?_⟩
    have e41 : (")" : Str) = S [41] := by decide +kernel
    have e40 : ("(" : Str) = S [40] := by decide +kernel
    have szl := sizeLine_eq
    have qn : P22.namesOf nameB ws = none → ∀ H', Same H H' → Q .non H' := fun e => by
      rw [e] at q
      exact q
    have qs : ∀ ns, P22.namesOf nameB ws = some ns → ∀ H' a, Same H H' → H a = none → H' a = some (wordsV ns) → Q (.ref a) H' := fun ns e => by
      rw [e] at q
      exact q
    clear q
    simp only [L2.start, cxOf, tRet, tAndV, tOrV, tNotV, tCB, tCons, tNil, tVar, tC, tOp, tUn, tTest, tB, tSeq, tAsg, tNot, gName, tNext, tCall, tChain, rI, rI0, rEq, rNe, rGcd, rU, tM1, tM0, tSl, tPart, tNoPart, gTup, gCons, gNil, gSub, tTup, tLst, tPar, L2.rI, List.map_cons, List.map_nil, List.length_cons, List.length_nil, List.cons_append, List.nil_append, List.append_nil, List.getElem?_cons_zero, List.getElem?_cons_succ, List.set_cons_zero, List.set_cons_succ, Option.some.injEq, exists_eq_left, exists_eq_left', exists_eq_right, exists_and_left, exists_and_right, List.cons.injEq, and_true, true_and, V.int.injEq, V.str.injEq, V.bl.injEq, V.ref.injEq, List.replicate, Nat.reduceAdd, Nat.reduceSub, reduceCtorEq, false_and, and_false, if_true, if_false, Bool.false_eq_true, Bool.not_true, Bool.not_false, decide_eq_true_eq, exists_false, or_false, false_or]
    refine ⟨small (by decide), fun p hp => ⟨small (by decide), fun p1 hp1 => ?_⟩⟩
    have n01 : p ≠ p1 := fun z => by rw [← z, upd_same] at hp1; cases hp1
    have hp10 : H p1 = none := by rw [upd_ne (Ne.symm n01)] at hp1; exact hp1
    refine for_list_at (l := t) (xs := ws.map fun w => V.str (S w)) (fun R k => ⟨_, rfl, k⟩) (SqL.of ((same_new hp1) _ _ ((same_new hp) _ _ ht))) ⟨fun i σ' H' => ∃ (ns : List P22.Wd) (xs : List Nat) (e : Bool) (y : Option V), σ' = [some (.ref t), some (.ref p), some (.ref p1), some (.bl e), y] ∧ Same H H' ∧ H' p = some (wordsV ns) ∧ H' p1 = some (cntV xs) ∧
      P22.nmAll nameB (ws.drop i) ⟨ns, xs, e⟩ = P22.nmAll nameB ws ⟨[], [], false⟩ ∧ ns.length ≤ i ∧ xs.length ≤ i,
      ⟨[], [], false, none, rfl, (same_new hp).trans (same_new hp1), by rw [upd_ne n01, upd_same]; rfl, by rw [upd_same]; rfl, rfl, Nat.le_refl _, Nat.le_refl _⟩, ?_, ?_, ?_⟩
    · rintro i σ' H' _ ⟨ns, xs, e, y, rfl, sm, _⟩
      exact SqL.of (sm _ _ ht)
    · rintro i x σ' H' hx ⟨ns, xs, e, y, rfl, sm, hns, hxs, fol, l1, l2⟩
      rw [List.getElem?_map] at hx
      obtain ⟨w0, hw, rfl⟩ : ∃ w0, ws[i]? = some w0 ∧ V.str (S w0) = x := by
        cases e : ws[i]? with
        | none => rw [e] at hx; cases hx
        | some w0 => rw [e] at hx; exact ⟨w0, rfl, Option.some.inj hx⟩
      obtain ⟨hi, ew⟩ := List.getElem?_eq_some_iff.mp hw
      have dr : ws.drop i = w0 :: ws.drop (i + 1) := by rw [List.drop_eq_getElem_cons hi, ew]
      rw [dr] at fol
      have bad : P22.nm nameB ⟨ns, xs, e⟩ w0 = none → ∀ H', Same H H' → Q .non H' := fun z => qn (by
        have f2 : P22.nmAll nameB ws ⟨[], [], false⟩ = none := by
          rw [← fol]
          show (match P22.nm nameB ⟨ns, xs, e⟩ w0 with | none => none | some s' => _) = none
          rw [z]
        unfold P22.namesOf
        rw [f2])
      have good : ∀ {s'}, P22.nm nameB ⟨ns, xs, e⟩ w0 = some s' → P22.nmAll nameB (ws.drop (i + 1)) s' = P22.nmAll nameB ws ⟨[], [], false⟩ := fun {s'} z => by
        rw [← fol]
        show _ = (match P22.nm nameB ⟨ns, xs, e⟩ w0 with | none => none | some s' => P22.nmAll nameB (ws.drop (i + 1)) s')
        rw [z]
      have tyl : ∀ {H : Hp} {a : Addr} {zs : List V}, H a = some (.lst zs) → tyV K "list" (V.ref a) H := fun h => .inl ⟨rfl, _, SqL.of h⟩
      show tSeq _ _ _ [some (.ref t), some (.ref p), some (.ref p1), some (.bl e), some (.str (S w0))] H'
      refine seq_cut (fun σ' H2 => σ' = [some (.ref t), some (.ref p), some (.ref p1), some (.bl e), some (.str (S w0))] ∧ H2 = H' ∧ e = false) (fun D' hr hn => ?_) ?_
      · simp only [L2.start, cxOf, tRet, tAndV, tOrV, tNotV, tCB, tCons, tNil, tVar, tC, tOp, tUn, tTest, tB, tIf, tIfS, tSeq, tAsg, tAnd, tOr, tNot, gName, tNext, tCall, tChain, rI, rI0, rEq, rNe, rGcd, rU, tM1, tM0, tSl, tPart, tNoPart, gTup, gCons, gNil, gSub, tTup, tLst, tPar, L2.rI, List.map_cons, List.map_nil, List.length_cons, List.length_nil, List.cons_append, List.nil_append, List.append_nil, List.getElem?_cons_zero, List.getElem?_cons_succ, List.set_cons_zero, List.set_cons_succ, Option.some.injEq, exists_eq_left, exists_eq_left', exists_eq_right, exists_and_left, exists_and_right, List.cons.injEq, and_true, true_and, V.int.injEq, V.str.injEq, V.bl.injEq, V.ref.injEq, List.replicate, Nat.reduceAdd, Nat.reduceSub, reduceCtorEq, false_and, and_false, if_true, if_false, Bool.false_eq_true, Bool.not_true, Bool.not_false, decide_eq_true_eq, exists_false, or_false, false_or]
        cases e with
        | true =>
          rw [if_pos rfl, hr]
          exact bad (if_pos rfl) _ sm
        | false =>
          rw [if_neg (by decide)]
          exact hn _ _ ⟨rfl, rfl, rfl⟩
      rintro σ' H2 ⟨rfl, rfl, rfl⟩
      refine ⟨.str (S w0), rfl, rfl, _, rfl, ?_⟩
      dsimp only
      rw [e40]
      by_cases c40 : w0 = [40]
      · subst c40
        rw [if_pos (by simp)]
        simp only [L2.start, cxOf, tRet, tAndV, tOrV, tNotV, tCB, tCons, tNil, tVar, tC, tOp, tUn, tTest, tB, tIf, tIfS, tSeq, tAsg, tAnd, tOr, tNot, gName, tNext, tCall, tChain, rI, rI0, rEq, rNe, rGcd, rU, tM1, tM0, tSl, tPart, tNoPart, gTup, gCons, gNil, gSub, tTup, tLst, tPar, L2.rI, List.map_cons, List.map_nil, List.length_cons, List.length_nil, List.cons_append, List.nil_append, List.append_nil, List.getElem?_cons_zero, List.getElem?_cons_succ, List.set_cons_zero, List.set_cons_succ, Option.some.injEq, exists_eq_left, exists_eq_left', exists_eq_right, exists_and_left, exists_and_right, List.cons.injEq, and_true, true_and, V.int.injEq, V.str.injEq, V.bl.injEq, V.ref.injEq, List.replicate, Nat.reduceAdd, Nat.reduceSub, reduceCtorEq, false_and, and_false, if_true, if_false, Bool.false_eq_true, Bool.not_true, Bool.not_false, decide_eq_true_eq, exists_false, or_false, false_or, tDrop, tBM, rAppend, tCont]
        refine ⟨tyl hxs, _, hxs, by rw [List.length_map, szl]; omega, ns, xs ++ [0], false, ⟨rfl, _, rfl⟩, same_upd sm hp10, ?_, ?_, good rfl, by omega, by simp; omega⟩
        · rw [upd_ne n01]
          exact hns
        · rw [upd_same, cntV, List.map_append]
          rfl
      rw [if_neg (by simpa using fun z => c40 (SX.S_inj z)), show ∀ (D : Ends) (σ : L2.St) (H : Hp), tNext D σ H = D.nx σ H from fun _ _ _ => rfl]
      dsimp only
      show tSeq _ _ _ [some (.ref t), some (.ref p), some (.ref p1), some (.bl false), some (.str (S w0))] H2
      refine seq_cut (fun σ' H3 => ∃ ns2 xs2, σ' = [some (.ref t), some (.ref p), some (.ref p1), some (.bl false), some (.str (S w0))] ∧ Same H H3 ∧ H3 p = some (wordsV ns2) ∧ H3 p1 = some (cntV xs2) ∧ P22.nm nameB ⟨ns, xs, false⟩ w0 = some (P22.close ns2 xs2) ∧ ns2.length ≤ i + 1 ∧ xs2.length ≤ i) (fun D' hr hn => ?_) ?_
      · simp only [L2.start, cxOf, tRet, tAndV, tOrV, tNotV, tCB, tCons, tNil, tVar, tC, tOp, tUn, tTest, tB, tIf, tIfS, tSeq, tAsg, tAnd, tOr, tNot, gName, tNext, tCall, tChain, rI, rI0, rEq, rNe, rGcd, rU, tM1, tM0, tSl, tPart, tNoPart, gTup, gCons, gNil, gSub, tTup, tLst, tPar, L2.rI, List.map_cons, List.map_nil, List.length_cons, List.length_nil, List.cons_append, List.nil_append, List.append_nil, List.getElem?_cons_zero, List.getElem?_cons_succ, List.set_cons_zero, List.set_cons_succ, Option.some.injEq, exists_eq_left, exists_eq_left', exists_eq_right, exists_and_left, exists_and_right, List.cons.injEq, and_true, true_and, V.int.injEq, V.str.injEq, V.bl.injEq, V.ref.injEq, List.replicate, Nat.reduceAdd, Nat.reduceSub, reduceCtorEq, false_and, and_false, if_true, if_false, Bool.false_eq_true, Bool.not_true, Bool.not_false, decide_eq_true_eq, exists_false, or_false, false_or, tDrop, tBM, tBM0, rAppend, rPop, spVal]
        rw [e41, hr]
        refine ⟨rfl, ?_⟩
        by_cases c41 : w0 = [41]
        · subst c41
          rw [if_neg (by simp)]
          refine ⟨small (by decide), fun l hl => ?_⟩
          have sml : Same H2 (upd H2 l (.lst [])) := same_new hl
          refine eq_nil (sml _ _ hxs) upd_same ⟨_, rfl, ?_⟩
          rcases snoc_or xs with rfl | ⟨ys, h, rfl⟩
          · rw [if_pos (by simp)]
            exact bad rfl _ (sm.trans sml)
          · rw [if_neg (by simp)]
            have nme : P22.nm nameB ⟨ns, ys ++ [h], false⟩ [41] = if (some h : Option Nat) = some 2 then some (P22.close ns ys) else none := by
              unfold P22.nm
              rw [if_neg Bool.false_ne_true, if_neg (by decide), if_neg (by decide), List.getLast?_concat, List.dropLast_concat]
            have hx3 : (upd H2 l (.lst [])) p1 = some (.lst ((ys.map fun (n : Nat) => V.int (n : Int)) ++ [V.int (h : Int)])) := by
              rw [sml _ _ hxs, cntV, List.map_append]
              rfl
            refine ⟨tyl hx3, _, hx3, V.int (h : Int), by simp, rfl, ?_⟩
            rw [List.dropLast_concat]
            by_cases h2 : h = 2
            · subst h2
              rw [if_neg (by simp)]
              refine hn _ _ ⟨ns, ys, rfl, same_upd (sm.trans sml) hp10, ?_, upd_same, by rw [nme, if_pos rfl], by omega, by rw [List.length_append] at l2; omega⟩
              rw [upd_ne n01]
              exact sml _ _ hns
            · rw [if_pos (by simpa using fun z => h2 (by omega))]
              exact bad (by rw [nme, if_neg (fun z => h2 (Option.some.inj z))]) _ (same_upd (sm.trans sml) hp10)
        · rw [if_pos (by simpa using fun z => c41 (SX.S_inj z))]
          have nme : P22.nm nameB ⟨ns, xs, false⟩ w0 = if nameB w0 = true then some (P22.close (ns ++ [w0]) xs) else none := by
            unfold P22.nm
            rw [if_neg Bool.false_ne_true, if_neg c40, if_pos c41]
          refine ⟨w0, rfl, short _ (List.mem_of_getElem? hw), ?_⟩
          by_cases hb : nameB w0 = true
          · rw [if_neg (by simp [hb])]
            refine ⟨tyl hns, _, hns, by rw [List.length_map, szl]; omega, hn _ _ ⟨ns ++ [w0], xs, rfl, same_upd sm hp, ?_, ?_, by rw [nme, if_pos hb], by simp; omega, l2⟩⟩
            · rw [upd_same, wordsV, List.map_append]
              rfl
            · rw [upd_ne (Ne.symm n01)]
              exact hxs
          · rw [if_pos (by simpa using hb)]
            exact bad (by rw [nme, if_neg hb]) _ sm
      rintro σ' H3 ⟨ns2, xs2, rfl, sm3, hns3, hxs3, nm3, l3, l4⟩
      have fol3 := good nm3
      simp only [L2.start, cxOf, tRet, tAndV, tOrV, tNotV, tCB, tCons, tNil, tVar, tC, tOp, tUn, tTest, tB, tIf, tIfS, tSeq, tAsg, tAnd, tOr, tNot, gName, tNext, tCall, tChain, rI, rI0, rEq, rNe, rGcd, rU, tM1, tM0, tSl, tPart, tNoPart, gTup, gCons, gNil, gSub, tTup, tLst, tPar, L2.rI, List.map_cons, List.map_nil, List.length_cons, List.length_nil, List.cons_append, List.nil_append, List.append_nil, List.getElem?_cons_zero, List.getElem?_cons_succ, List.set_cons_zero, List.set_cons_succ, Option.some.injEq, exists_eq_left, exists_eq_left', exists_eq_right, exists_and_left, exists_and_right, List.cons.injEq, and_true, true_and, V.int.injEq, V.str.injEq, V.bl.injEq, V.ref.injEq, List.replicate, Nat.reduceAdd, Nat.reduceSub, reduceCtorEq, false_and, and_false, if_true, if_false, Bool.false_eq_true, Bool.not_true, Bool.not_false, decide_eq_true_eq, exists_false, or_false, false_or, tAugS]
      refine ⟨small (by decide), fun l hl => ?_⟩
      have sml : Same H3 (upd H3 l (.lst [])) := same_new hl
      refine eq_nil (sml _ _ hxs3) upd_same ⟨_, rfl, ?_⟩
      rcases snoc_or xs2 with rfl | ⟨ys, h, rfl⟩
      · rw [if_pos (by simp)]
        exact ⟨ns2, [], true, ⟨rfl, _, rfl⟩, sm3.trans sml, sml _ _ hns3, sml _ _ hxs3, fol3, by omega, Nat.zero_le _⟩
      · rw [if_neg (by simp)]
        rw [P22.close_open] at fol3
        have hx3 : (upd H3 l (.lst [])) p1 = some (.lst ((ys.map fun (n : Nat) => V.int (n : Int)) ++ [V.int (h : Int)])) := by
          rw [sml _ _ hxs3, cntV, List.map_append]
          rfl
        have ix : ixN ((ys.map fun (n : Nat) => V.int (n : Int)) ++ [V.int (h : Int)]).length (-1) = some ys.length := by
          unfold ixN
          rw [if_neg (by decide), if_pos (by rw [List.length_append, List.length_singleton]; omega), List.length_append, List.length_singleton, List.length_map]
          congr 1
          omega
        refine ⟨p1, _, -1, V.int (h : Int), rfl, rfl, by decide, SqL.of hx3, ?_, (h : Int), 1, rfl, rfl, p1, _, -1, ys.length, rfl, rfl, hx3, ix, ns2, ys ++ [h + 1], false, ⟨rfl, _, rfl⟩, same_upd (sm3.trans sml) hp10, ?_, ?_, fol3, by omega, by rw [List.length_append, List.length_singleton] at l4 ⊢; omega⟩
        · unfold atI
          rw [ix]
          show ((ys.map fun (n : Nat) => V.int (n : Int)) ++ [V.int (h : Int)])[ys.length]? = _
          rw [List.getElem?_append_right (by rw [List.length_map]; exact Nat.le_refl _), List.length_map, Nat.sub_self]
          rfl
        · rw [upd_ne n01]
          exact sml _ _ hns3
        · rw [upd_same, cntV, List.map_append]
          have e : ((ys.map fun (n : Nat) => V.int (n : Int)) ++ [V.int (h : Int)]).set ys.length (V.int ((h : Int) + 1)) = (ys.map fun (n : Nat) => V.int (n : Int)) ++ [V.int ((h : Int) + 1)] := by
            have := List.set_append_right (s := ys.map fun (n : Nat) => V.int (n : Int)) (t := [V.int (h : Int)]) ys.length (V.int ((h : Int) + 1)) (by rw [List.length_map]; exact Nat.le_refl _)
            rw [this, List.length_map, Nat.sub_self]
            rfl
          rw [e]
          rfl
    · rintro σ' H' ⟨ns, xs, e, y, rfl, sm, hns, hxs, fol, l1, l2⟩
      rw [List.length_map] at l1 l2
      rw [List.length_map, List.drop_length] at fol
      have fin : P22.nmAll nameB ws ⟨[], [], false⟩ = some ⟨ns, xs, e⟩ := fol.symm
      have nms : P22.namesOf nameB ws = if e = true ∧ ns.Nodup then some ns else none := by
        unfold P22.namesOf
        rw [fin]
      simp only [L2.start, cxOf, tRet, tAndV, tOrV, tNotV, tCB, tCons, tNil, tVar, tC, tOp, tUn, tTest, tB, tIf, tIfS, tSeq, tAsg, tAnd, tOr, tNot, gName, tNext, tCall, tChain, rI, rI0, rEq, rNe, rGcd, rU, tM1, tM0, tSl, tPart, tNoPart, gTup, gCons, gNil, gSub, tTup, tLst, tPar, L2.rI, List.map_cons, List.map_nil, List.length_cons, List.length_nil, List.cons_append, List.nil_append, List.append_nil, List.getElem?_cons_zero, List.getElem?_cons_succ, List.set_cons_zero, List.set_cons_succ, Option.some.injEq, exists_eq_left, exists_eq_left', exists_eq_right, exists_and_left, exists_and_right, List.cons.injEq, and_true, true_and, V.int.injEq, V.str.injEq, V.bl.injEq, V.ref.injEq, List.replicate, Nat.reduceAdd, Nat.reduceSub, reduceCtorEq, false_and, and_false, if_true, if_false, Bool.false_eq_true, Bool.not_true, Bool.not_false, decide_eq_true_eq, exists_false, or_false, false_or, tLenTexts]
      cases e with
      | false =>
        rw [if_pos (by decide)]
        exact qn (by rw [nms, if_neg (fun z => by cases z.1)]) _ sm
      | true =>
        rw [if_neg (by decide)]
        have lenS : (ns.map S).length = ns.length := List.length_map ..
        refine ⟨ns.map S, SqL.of (by rw [hns, wordsV, List.map_map]; rfl), by rw [lenS]; omega, fun c h1 h2 => ⟨ns.length, ?_, rfl, ?_⟩⟩
        · have := len_L (K := K) (SqL.of (K := K) hns)
          rw [List.length_map] at this
          exact this
        have nd : (ns.map S).Nodup ↔ ns.Nodup := by
          rw [List.nodup_iff_pairwise_ne, List.nodup_iff_pairwise_ne, List.pairwise_map]
          exact ⟨fun z => z.imp fun h e => h (by rw [e]), fun z => z.imp fun h e => h (SX.S_inj e)⟩
        rw [lenS] at h2
        by_cases hc : c = ns.length
        · rw [if_neg (by simp [hc])]
          exact qs ns (by rw [nms, if_pos ⟨rfl, nd.mp (h2.mp hc)⟩]) H' p sm hp hns
        · rw [if_pos (by simpa using fun z => hc (by omega))]
          exact qn (by rw [nms, if_neg (fun z => hc (h2.mpr (nd.mpr z.2)))]) _ sm
end
end W22

set_option Elab.async false
set_option linter.all false
set_option maxRecDepth 100000
set_option maxHeartbeats 4000000
/-! F22: trees as the law holds them; their texts -/
namespace W22
open PySem PySem.Spec PyProof.Rows L2 Lay
open SX (S S_len S_cat S_tl)
open C8 (Cal pe_c pe_gc fnScope_by E0)
/-- a tree of texts and pairs -/
def TrAt (H : Hp) : P22.Tr → V → Prop
  | .leaf w => fun v => v = .str (S w)
  | .node l r => fun v => ∃ a x y, v = .ref a ∧ H a = some (.tup [x, y]) ∧ TrAt H l x ∧ TrAt H r y
theorem TrAt.same {H H' : Hp} (e : Same H H') : ∀ {t : P22.Tr} {v : V}, TrAt H t v → TrAt H' t v
  | .leaf w, _, h => h
  | .node l r, _, ⟨a, x, y, hv, ha, hl, hr⟩ => ⟨a, x, y, hv, e _ _ ha, TrAt.same e hl, TrAt.same e hr⟩
def depth : P22.Tr → Nat
  | .leaf _ => 0
  | .node l r => max (depth l) (depth r) + 1
section
variable {P : Program} {w : World} {K : PySem.W.Frag} {mg : Str → Option Value} {base : Heap} {f : Addr} {fd : FuncData}
theorem sc54 : FnScope ["tree"] ["tree"] (defScope (top 58)) := fnScope_by (by decide +kernel)
def spSpell (n : Nat) : Sp := fun vs H Q _ => ∃ v t, vs = [v] ∧ TrAt H t v ∧ depth t ≤ n ∧ (P22.spell t).length ≤ 1000000 ∧ Q (.str (S (P22.spell t))) H
theorem ok_spell_step (m : Mg K mg) (F : Fn K "_law_spell" 58 f fd) (g : mg "_law_spell" = some (.ref f)) (n : Nat) (c__law_spell : n = 0 ∨ Cal P w K mg base n "_law_spell" (spSpell (n - 1)) []) : Cal P w K mg base (n + 1) "_law_spell" (spSpell n) [] := by
  have sc := sc54
  refine calD F g sc (fun _ _ _ _ _ _ us hl => match us, hl with | [_], _ => rfl) ?_ fun cdv A outer s H vs Q E hr h => ?_
  · rintro vs H Q E ⟨v, t, rfl, _⟩
    rfl
  · obtain ⟨v, t, rfl, tr, dp, hz, q⟩ := h
    rcases c__law_spell with rfl | c__law_spell
    · refine ⟨_, pss_cons (ps_if (pt_val (pe_callB call_isB (by rfl) m.isinstance_ boot_isinstance (pa_cons (pv 0) (pa_cons (pe_bltn (v := .ty "str") (by rfl) m.str_ boot_str rfl) pa_nil)))) (pss_one (ps_ret (pv 0))) pss_nil) pss_never, ?_⟩
      cases t with
      | node l r => exact absurd dp (by show ¬ (max (depth l) (depth r) + 1 ≤ 0); omega)
      | leaf u =>
        obtain rfl : v = .str (S u) := tr
        simp only [L2.start, cxOf, tRet, tAndV, tOrV, tNotV, tCB, tCons, tNil, tVar, tC, tOp, tUn, tTest, tB, tIf, tIfS, tSeq, tAsg, tAnd, tOr, tNot, gName, tNext, tCall, tChain, rI, rI0, rEq, rNe, rGcd, rU, tM1, tM0, tSl, tPart, tNoPart, gTup, gCons, gNil, gSub, tTup, tLst, tPar, L2.rI, List.map_cons, List.map_nil, List.length_cons, List.length_nil, List.cons_append, List.nil_append, List.append_nil, List.getElem?_cons_zero, List.getElem?_cons_succ, List.set_cons_zero, List.set_cons_succ, Option.some.injEq, exists_eq_left, exists_eq_left', exists_eq_right, exists_and_left, exists_and_right, List.cons.injEq, and_true, true_and, V.int.injEq, V.str.injEq, V.bl.injEq, V.ref.injEq, List.replicate, Nat.reduceAdd, Nat.reduceSub, reduceCtorEq, false_and, and_false, if_true, if_false, Bool.false_eq_true, Bool.not_true, Bool.not_false, decide_eq_true_eq, exists_false, or_false, false_or]
        exact isi_t (T := "str") kd_str q
    · refine ⟨_, (pss_cons (ps_if (pt_val (pe_callB call_isB (by rfl) m.isinstance_ boot_isinstance (pa_cons (pv 0) (pa_cons (pe_bltn (v := .ty "str") (by rfl) m.str_ boot_str rfl) pa_nil))))
        (pss_one (ps_ret (pv 0)))
        pss_nil)
      (pss_one (ps_ret (pe_op op_add_str (pe_op op_add_str (pe_op op_add_str (pe_op op_add_str pe_str (pe_c c__law_spell hr (Nat.le_refl _) (by rfl) (pa_cons (pe_ix ix_tup (pv 0) pe_int (fun _ _ => rfl)) pa_nil))) pe_str) (pe_c c__law_spell hr (Nat.le_refl _) (by rfl) (pa_cons (pe_ix ix_tup (pv 0) pe_int (fun _ _ => rfl)) pa_nil))) pe_str)))), ?_⟩
      simp only [L2.start, cxOf, tRet, tAndV, tOrV, tNotV, tCB, tCons, tNil, tVar, tC, tOp, tUn, tTest, tB, tIf, tIfS, tSeq, tAsg, tAnd, tOr, tNot, gName, tNext, tCall, tChain, rI, rI0, rEq, rNe, rGcd, rU, tM1, tM0, tSl, tPart, tNoPart, gTup, gCons, gNil, gSub, tTup, tLst, tPar, L2.rI, List.map_cons, List.map_nil, List.length_cons, List.length_nil, List.cons_append, List.nil_append, List.append_nil, List.getElem?_cons_zero, List.getElem?_cons_succ, List.set_cons_zero, List.set_cons_succ, Option.some.injEq, exists_eq_left, exists_eq_left', exists_eq_right, exists_and_left, exists_and_right, List.cons.injEq, and_true, true_and, V.int.injEq, V.str.injEq, V.bl.injEq, V.ref.injEq, List.replicate, Nat.reduceAdd, Nat.reduceSub, reduceCtorEq, false_and, and_false, if_true, if_false, Bool.false_eq_true, Bool.not_true, Bool.not_false, decide_eq_true_eq, exists_false, or_false, false_or, spSpell]
      cases t with
      | leaf u =>
        obtain rfl : v = .str (S u) := tr
        exact isi_t (T := "str") kd_str q
      | node l r =>
        obtain ⟨a, x, y, rfl, ha, hl, hr2⟩ := tr
        have e41 : (")" : Str) = S [41] := by decide +kernel
        have e40 : ("(" : Str) = S [40] := by decide +kernel
        have e32 : (" " : Str) = S [32] := by decide +kernel
        have szl := sizeLine_eq
        have dp2 : max (depth l) (depth r) + 1 ≤ n := dp
        have hz2 : (P22.spell l).length + (P22.spell r).length + 3 ≤ 1000000 := by
          simp only [P22.spell, List.length_cons, List.length_append, List.length_nil] at hz
          omega
        rw [e40, e41, e32]
        simp only [S_cat, S_len, List.length_append, List.length_cons, List.length_nil, szl]
        refine isi_f (T := "str") (kd_tup ha) (ixT ha 0 rfl ⟨l, hl, by omega, by omega, by omega, by omega, ixT ha 1 rfl ⟨r, hr2, by omega, by omega, by omega, by omega, ?_⟩⟩)
        have e : [40] ++ P22.spell l ++ [32] ++ P22.spell r ++ [41] = P22.spell (.node l r) := by simp [P22.spell]
        rw [e]
        exact q
theorem ok_spell (m : Mg K mg) (F : Fn K "_law_spell" 58 f fd) (g : mg "_law_spell" = some (.ref f)) : ∀ n, Cal P w K mg base (n + 1) "_law_spell" (spSpell n) []
  | 0 => ok_spell_step m F g 0 (.inl rfl)
  | n + 1 => ok_spell_step m F g (n + 1) (.inr (ok_spell m F g n))
end
end W22

set_option Elab.async false
set_option linter.all false
set_option maxRecDepth 100000
set_option maxHeartbeats 4000000
/-! G22: all nodes of a tree -/
namespace W22
open PySem PySem.Spec PyProof.Rows L2 Lay
open SX (S S_len S_cat S_tl)
open C8 (Cal pe_c pe_gc fnScope_by E0)
/-- the values vs are the trees ts -/
def AllAt (H : Hp) : List P22.Tr → List V → Prop
  | [] => fun vs => vs = []
  | t :: ts => fun vs => ∃ v r, vs = v :: r ∧ TrAt H t v ∧ AllAt H ts r
theorem AllAt.same {H H' : Hp} (e : Same H H') : ∀ {ts : List P22.Tr} {vs : List V}, AllAt H ts vs → AllAt H' ts vs
  | [], _, h => h
  | _ :: _, _, ⟨v, r, hv, ht, hr⟩ => ⟨v, r, hv, ht.same e, AllAt.same e hr⟩
theorem AllAt.append {H : Hp} : ∀ {ts us : List P22.Tr} {vs ws : List V}, AllAt H ts vs → AllAt H us ws → AllAt H (ts ++ us) (vs ++ ws)
  | [], _, _, _, h, k => by
    obtain rfl : _ = [] := h
    exact k
  | _ :: _, _, _, _, ⟨v, r, hv, ht, hr⟩, k => ⟨v, r ++ _, by rw [hv]; rfl, ht, AllAt.append hr k⟩
theorem AllAt.len {H : Hp} : ∀ {ts : List P22.Tr} {vs : List V}, AllAt H ts vs → vs.length = ts.length
  | [], _, h => by
    obtain rfl : _ = [] := h
    rfl
  | _ :: _, _, ⟨v, r, hv, _, hr⟩ => by rw [hv, List.length_cons, List.length_cons, AllAt.len hr]
section
variable {P : Program} {w : World} {K : PySem.W.Frag} {mg : Str → Option Value} {base : Heap} {f : Addr} {fd : FuncData}
theorem sc55 : FnScope ["tree"] ["tree"] (defScope (top 59)) := fnScope_by (by decide +kernel)
def spAll (n : Nat) : Sp := fun vs H Q _ => ∃ v t, vs = [v] ∧ TrAt H t v ∧ depth t ≤ n ∧ (P22.nodes t).length ≤ 10000 ∧ ∀ H' a us, Same H H' → H a = none → H' a = some (.lst us) → AllAt H' (P22.nodes t) us → Q (.ref a) H'
theorem ok_all_step (m : Mg K mg) (F : Fn K "_law_all" 59 f fd) (g : mg "_law_all" = some (.ref f)) (n : Nat) (c__law_all : n = 0 ∨ Cal P w K mg base n "_law_all" (spAll (n - 1)) []) : Cal P w K mg base (n + 1) "_law_all" (spAll n) [] := by
  have sc := sc55
  refine calD F g sc (fun _ _ _ _ _ _ us hl => match us, hl with | [_], _ => rfl) ?_ fun cdv A outer s H vs Q E hr h => ?_
  · rintro vs H Q E ⟨v, t, rfl, _⟩
    rfl
  · obtain ⟨v, t, rfl, tr, dp, hz, q⟩ := h
    rcases c__law_all with rfl | c__law_all
    · refine ⟨_, pss_cons (ps_if (pt_val (pe_callB call_isB (by rfl) m.isinstance_ boot_isinstance (pa_cons (pv 0) (pa_cons (pe_bltn (v := .ty "str") (by rfl) m.str_ boot_str rfl) pa_nil)))) (pss_one (ps_ret (pe_lst (pa_cons (pv 0) pa_nil)))) pss_nil) pss_never, ?_⟩
      cases t with
      | node l r => exact absurd dp (by show ¬ (max (depth l) (depth r) + 1 ≤ 0); omega)
      | leaf u =>
        obtain rfl : v = .str (S u) := tr
        simp only [L2.start, cxOf, tRet, tAndV, tOrV, tNotV, tCB, tCons, tNil, tVar, tC, tOp, tUn, tTest, tB, tIf, tIfS, tSeq, tAsg, tAnd, tOr, tNot, gName, tNext, tCall, tChain, rI, rI0, rEq, rNe, rGcd, rU, tM1, tM0, tSl, tPart, tNoPart, gTup, gCons, gNil, gSub, tTup, tLst, tPar, L2.rI, List.map_cons, List.map_nil, List.length_cons, List.length_nil, List.cons_append, List.nil_append, List.append_nil, List.getElem?_cons_zero, List.getElem?_cons_succ, List.set_cons_zero, List.set_cons_succ, Option.some.injEq, exists_eq_left, exists_eq_left', exists_eq_right, exists_and_left, exists_and_right, List.cons.injEq, and_true, true_and, V.int.injEq, V.str.injEq, V.bl.injEq, V.ref.injEq, List.replicate, Nat.reduceAdd, Nat.reduceSub, reduceCtorEq, false_and, and_false, if_true, if_false, Bool.false_eq_true, Bool.not_true, Bool.not_false, decide_eq_true_eq, exists_false, or_false, false_or]
        exact isi_t (T := "str") kd_str ⟨small (by decide), fun a ha => q _ a _ (same_new ha) ha upd_same ⟨_, [], rfl, rfl, rfl⟩⟩
    · refine ⟨_, (pss_cons (ps_if (pt_val (pe_callB call_isB (by rfl) m.isinstance_ boot_isinstance (pa_cons (pv 0) (pa_cons (pe_bltn (v := .ty "str") (by rfl) m.str_ boot_str rfl) pa_nil))))
        (pss_one (ps_ret (pe_lst (pa_cons (pv 0) pa_nil))))
        pss_nil)
      (pss_one (ps_ret (pe_op op_cat (pe_op op_cat (pe_c c__law_all hr (Nat.le_refl _) (by rfl) (pa_cons (pe_ix ix_tup (pv 0) pe_int (fun _ _ => rfl)) pa_nil)) (pe_c c__law_all hr (Nat.le_refl _) (by rfl) (pa_cons (pe_ix ix_tup (pv 0) pe_int (fun _ _ => rfl)) pa_nil))) (pe_lst (pa_cons (pv 0) pa_nil)))))), ?_⟩
      simp only [L2.start, cxOf, tRet, tAndV, tOrV, tNotV, tCB, tCons, tNil, tVar, tC, tOp, tUn, tTest, tB, tIf, tIfS, tSeq, tAsg, tAnd, tOr, tNot, gName, tNext, tCall, tChain, rI, rI0, rEq, rNe, rGcd, rU, tM1, tM0, tSl, tPart, tNoPart, gTup, gCons, gNil, gSub, tTup, tLst, tPar, L2.rI, List.map_cons, List.map_nil, List.length_cons, List.length_nil, List.cons_append, List.nil_append, List.append_nil, List.getElem?_cons_zero, List.getElem?_cons_succ, List.set_cons_zero, List.set_cons_succ, Option.some.injEq, exists_eq_left, exists_eq_left', exists_eq_right, exists_and_left, exists_and_right, List.cons.injEq, and_true, true_and, V.int.injEq, V.str.injEq, V.bl.injEq, V.ref.injEq, List.replicate, Nat.reduceAdd, Nat.reduceSub, reduceCtorEq, false_and, and_false, if_true, if_false, Bool.false_eq_true, Bool.not_true, Bool.not_false, decide_eq_true_eq, exists_false, or_false, false_or, spAll, rCat]
      cases t with
      | leaf u =>
        obtain rfl : v = .str (S u) := tr
        exact isi_t (T := "str") kd_str ⟨small (by decide), fun a ha => q _ a _ (same_new ha) ha upd_same ⟨_, [], rfl, rfl, rfl⟩⟩
      | node l r =>
        obtain ⟨a, x, y, rfl, ha, hl, hr2⟩ := tr
        have szl := sizeLine_eq
        have dp2 : max (depth l) (depth r) + 1 ≤ n := dp
        have hz2 : (P22.nodes l).length + (P22.nodes r).length + 1 ≤ 10000 := by
          simp only [P22.nodes, List.length_append, List.length_cons, List.length_nil] at hz
          omega
        refine isi_f (T := "str") (kd_tup ha) (ixT ha 0 rfl ⟨l, hl, by omega, by omega, fun H1 a1 us1 s1 n1 e1 al1 => ixT (s1 _ _ ha) 1 rfl ⟨r, hr2.same s1, by omega, by omega, fun H2 a2 us2 s2 n2 e2 al2 => ?_⟩⟩)
        have b1 := s2 _ _ e1
        have ln1 := al1.len
        have ln2 := al2.len
        refine ⟨_, b1, _, e2, by rw [ln1, ln2, szl]; omega, fun p hp => ⟨small (by decide), fun p1 hp1 => ?_⟩⟩
        have s3 : Same H2 (upd H2 p (.lst (us1 ++ us2))) := same_new hp
        have s4 : Same (upd H2 p (.lst (us1 ++ us2))) (upd (upd H2 p (.lst (us1 ++ us2))) p1 (.lst [V.ref a])) := same_new hp1
        refine ⟨_, s4 _ _ upd_same, _, upd_same, by rw [List.length_append, ln1, ln2, szl]; simp; omega, fun p2 hp2 => ?_⟩
        have s5 := same_new (o := .lst (us1 ++ us2 ++ [V.ref a])) hp2
        have sall := (((s1.trans s2).trans s3).trans s4).trans s5
        refine q _ p2 _ sall ((((s1.trans s2).trans s3).trans s4).free hp2) upd_same ?_
        exact AllAt.append (AllAt.append (al1.same (((s2.trans s3).trans s4).trans s5)) (al2.same ((s3.trans s4).trans s5))) ⟨_, [], rfl, ⟨a, x, y, rfl, sall _ _ ha, hl.same sall, hr2.same sall⟩, rfl⟩
theorem ok_all (m : Mg K mg) (F : Fn K "_law_all" 59 f fd) (g : mg "_law_all" = some (.ref f)) : ∀ n, Cal P w K mg base (n + 1) "_law_all" (spAll n) []
  | 0 => ok_all_step m F g 0 (.inl rfl)
  | n + 1 => ok_all_step m F g (n + 1) (.inr (ok_all m F g n))
end
end W22

set_option Elab.async false
set_option linter.all false
set_option maxRecDepth 100000
set_option maxHeartbeats 4000000
/-! H22: deeds by own hands -/
namespace W22
open PySem PySem.Spec PyProof.Rows L2 Lay
open SX (S S_len S_cat S_tl)
open C8 (Cal pe_c pe_gc fnScope_by E0)
/-- a deed done at a tree's root -/
def doneT (word : List Nat) : P22.Tr → Option P22.Tr
  | .leaf _ => none
  | .node l r =>
    if S word = ("swap" : Str) then some (.node r l)
    else if S word = ("right" : Str) then (match l with | .node a b => some (.node a (.node b r)) | .leaf _ => none)
    else if S word = ("left" : Str) then (match r with | .node a b => some (.node (.node l a) b) | .leaf _ => none)
    else none
section
variable {P : Program} {w : World} {K : PySem.W.Frag} {mg : Str → Option Value} {base : Heap} {f : Addr} {fd : FuncData}
theorem sc56 : FnScope ["word", "tree"] ["word", "tree"] (defScope (top 60)) := fnScope_by (by decide +kernel)
def spDone : Sp := fun vs H Q _ => ∃ u v t, vs = [.str (S u), v] ∧ TrAt H t v ∧ match doneT u t with
  | none => Q .non H
  | some t' => ∀ H' v', Same H H' → TrAt H' t' v' → Q v' H'
theorem tr_str {K : PySem.W.Frag} {H : Hp} {t : P22.Tr} {v : V} (h : TrAt H t v) : (∃ u, t = .leaf u ∧ Kd K H v "str") ∨ ∃ l r, t = .node l r ∧ Kd K H v "tuple" := by
  cases t with
  | leaf u =>
    obtain rfl : v = .str (S u) := h
    exact .inl ⟨u, rfl, kd_str⟩
  | node l r =>
    obtain ⟨a, x, y, rfl, ha, _⟩ := h
    exact .inr ⟨l, r, rfl, kd_tup ha⟩
theorem ok_done (m : Mg K mg) (F : Fn K "_law_done" 60 f fd) (g : mg "_law_done" = some (.ref f)) : Cal P w K mg base 1 "_law_done" spDone [] := by
  have sc := sc56
  refine calD F g sc (fun _ _ _ _ _ _ us hl => match us, hl with | [_, _], _ => rfl) ?_ fun cdv A outer s H vs Q E hr h => ?_
  · rintro vs H Q E ⟨u, v, t, rfl, _⟩
    rfl
  · obtain ⟨u, v, t, rfl, tr, q⟩ := h
    refine ⟨_, (pss_cons (ps_if (pt_val (pe_callB call_isB (by rfl) m.isinstance_ boot_isinstance (pa_cons (pv 1) (pa_cons (pe_bltn (v := .ty "str") (by rfl) m.str_ boot_str rfl) pa_nil))))
        (pss_one (ps_ret pe_non))
        pss_nil)
      (pss_cons (ps_if (pt_cmpR op_eq (pv 0) pe_str (nomark _))
        (pss_one (ps_ret (pe_tup (pa_cons (pe_ix ix_tup (pv 1) pe_int (fun _ _ => rfl)) (pa_cons (pe_ix ix_tup (pv 1) pe_int (fun _ _ => rfl)) pa_nil)))))
        pss_nil)
      (pss_cons (ps_if ((pw_and (pt_cmpR op_eq (pv 0) pe_str (nomark _)) (pw_and1 (pt_not (pt_val (pe_callB call_isB (by rfl) m.isinstance_ boot_isinstance (pa_cons (pe_ix ix_tup (pv 1) pe_int (fun _ _ => rfl)) (pa_cons (pe_bltn (v := .ty "str") (by rfl) m.str_ boot_str rfl) pa_nil)))))))).pt
        (pss_one (ps_ret (pe_tup (pa_cons (pe_ix ix_seq (pe_ix ix_tup (pv 1) pe_int (fun _ _ => rfl)) pe_int (fun _ _ => rfl)) (pa_cons (pe_tup (pa_cons (pe_ix ix_seq (pe_ix ix_tup (pv 1) pe_int (fun _ _ => rfl)) pe_int (fun _ _ => rfl)) (pa_cons (pe_ix ix_tup (pv 1) pe_int (fun _ _ => rfl)) pa_nil))) pa_nil)))))
        pss_nil)
      (pss_cons (ps_if ((pw_and (pt_cmpR op_eq (pv 0) pe_str (nomark _)) (pw_and1 (pt_not (pt_val (pe_callB call_isB (by rfl) m.isinstance_ boot_isinstance (pa_cons (pe_ix ix_tup (pv 1) pe_int (fun _ _ => rfl)) (pa_cons (pe_bltn (v := .ty "str") (by rfl) m.str_ boot_str rfl) pa_nil)))))))).pt
        (pss_one (ps_ret (pe_tup (pa_cons (pe_tup (pa_cons (pe_ix ix_tup (pv 1) pe_int (fun _ _ => rfl)) (pa_cons (pe_ix ix_seq (pe_ix ix_tup (pv 1) pe_int (fun _ _ => rfl)) pe_int (fun _ _ => rfl)) pa_nil))) (pa_cons (pe_ix ix_seq (pe_ix ix_tup (pv 1) pe_int (fun _ _ => rfl)) pe_int (fun _ _ => rfl)) pa_nil)))))
        pss_nil)
      (pss_one (ps_ret pe_non)))))), ?_⟩
    simp only [L2.start, cxOf, tRet, tAndV, tOrV, tNotV, tCB, tCons, tNil, tVar, tC, tOp, tUn, tTest, tB, tIf, tIfS, tSeq, tAsg, tAnd, tOr, tNot, gName, tNext, tCall, tChain, rI, rI0, rEq, rNe, rGcd, rU, tM1, tM0, tSl, tPart, tNoPart, gTup, gCons, gNil, gSub, tTup, tLst, tPar, L2.rI, List.map_cons, List.map_nil, List.length_cons, List.length_nil, List.cons_append, List.nil_append, List.append_nil, List.getElem?_cons_zero, List.getElem?_cons_succ, List.set_cons_zero, List.set_cons_succ, Option.some.injEq, exists_eq_left, exists_eq_left', exists_eq_right, exists_and_left, exists_and_right, List.cons.injEq, and_true, true_and, V.int.injEq, V.str.injEq, V.bl.injEq, V.ref.injEq, List.replicate, Nat.reduceAdd, Nat.reduceSub, reduceCtorEq, false_and, and_false, if_true, if_false, Bool.false_eq_true, Bool.not_true, Bool.not_false, decide_eq_true_eq, exists_false, or_false, false_or]
    cases t with
    | leaf z =>
      obtain rfl : v = .str (S z) := tr
      exact isi_t (T := "str") kd_str q
    | node l r =>
      obtain ⟨a, x, y, rfl, ha, hl, hr2⟩ := tr
      refine isi_f (T := "str") (kd_tup ha) ⟨rfl, ?_⟩
      unfold doneT at q
      dsimp only at q
      by_cases c1 : S u = ("swap" : Str)
      · rw [if_pos c1] at q ⊢
        exact ixT ha 1 rfl (ixT ha 0 rfl ⟨small (by decide), fun p hp => q _ _ (same_new hp) ⟨p, y, x, rfl, upd_same, hr2.same (same_new hp), hl.same (same_new hp)⟩⟩)
      rw [if_neg c1] at q ⊢
      refine ⟨rfl, ?_⟩
      have rl : ¬ ("right" : Str) = ("left" : Str) := by decide +kernel
      by_cases c2 : S u = ("right" : Str)
      · rw [if_pos c2] at q ⊢
        have c3 : ¬ S u = ("left" : Str) := fun z => rl (c2.symm.trans z)
        refine ixT ha 0 rfl ?_
        cases l with
        | leaf z =>
          obtain rfl : x = .str (S z) := hl
          refine isi_nt (T := "str") kd_str ⟨rfl, ?_⟩
          rw [if_neg c3]
          exact q
        | node l1 l2 =>
          obtain ⟨a1, x1, y1, rfl, ha1, h1, h2⟩ := hl
          refine isi_nf (T := "str") (kd_tup ha1) (ixT ha 0 rfl (.inr (.inl (ixT ha1 0 rfl (ixT ha 0 rfl (.inr (.inl (ixT ha1 1 rfl (ixT ha 1 rfl ⟨small (by decide), fun p hp => ⟨small (by decide), fun p1 hp1 => ?_⟩⟩)))))))))
          have s1 := same_new (o := .tup [y1, y]) hp
          have s2 := same_new (o := .tup [x1, .ref p]) hp1
          exact q _ _ (s1.trans s2) ⟨p1, x1, .ref p, rfl, upd_same, h1.same (s1.trans s2), p, y1, y, rfl, s2 _ _ upd_same, h2.same (s1.trans s2), hr2.same (s1.trans s2)⟩
      rw [if_neg c2] at q ⊢
      refine ⟨rfl, ?_⟩
      by_cases c3 : S u = ("left" : Str)
      · rw [if_pos c3] at q ⊢
        refine ixT ha 1 rfl ?_
        cases r with
        | leaf z =>
          obtain rfl : y = .str (S z) := hr2
          exact isi_nt (T := "str") kd_str q
        | node r1 r2 =>
          obtain ⟨a1, x1, y1, rfl, ha1, h1, h2⟩ := hr2
          refine isi_nf (T := "str") (kd_tup ha1) (ixT ha 0 rfl (ixT ha 1 rfl (.inr (.inl (ixT ha1 0 rfl ⟨small (by decide), fun p hp => ?_⟩)))))
          have s1 := same_new (o := .tup [x, x1]) hp
          refine ixT (s1 _ _ ha) 1 rfl (.inr (.inl (ixT (s1 _ _ ha1) 1 rfl ⟨small (by decide), fun p1 hp1 => ?_⟩)))
          have s2 := same_new (o := .tup [.ref p, y1]) hp1
          exact q _ _ (s1.trans s2) ⟨p1, .ref p, y1, rfl, upd_same, ⟨p, x, x1, rfl, s2 _ _ upd_same, hl.same (s1.trans s2), h1.same (s1.trans s2)⟩, h2.same (s1.trans s2)⟩
      · rw [if_neg c3] at q ⊢
        exact q
end
end W22

set_option Elab.async false
set_option linter.all false
set_option maxRecDepth 100000
set_option maxHeartbeats 4000000
/-! I22: a node by another one -/
namespace W22
open PySem PySem.Spec PyProof.Rows L2 Lay
open SX (S S_len S_cat S_tl)
open C8 (Cal pe_c pe_gc fnScope_by E0)
def dt : P22.Tr → PyData
  | .leaf u => .str (S u)
  | .node l r => .tuple [dt l, dt r]
theorem dp_tr {K : PySem.W.Frag} {H : Hp} : ∀ {t : P22.Tr} {v : V}, TrAt H t v → Dp K H v (dt t)
  | .leaf u, v, h => by
    obtain rfl : v = .str (S u) := h
    exact .str _
  | .node l r, v, ⟨a, x, y, hv, ha, hl, hr⟩ => by
    subst hv
    exact .tup (sqT_of ha) (.cons (dp_tr hl) (.cons (dp_tr hr) .nil))
theorem lay_dt : ∀ {t : P22.Tr}, (∀ u ∈ P22.leaves t, PyData.strOk (S u) = true) → (dt t).canLay0 = true
  | .leaf u, h => by
    simp only [dt, PyData.canLay0]
    exact h u (List.mem_singleton.mpr rfl)
  | .node l r, h => by
    simp [dt, PyData.canLay0, PyData.canLayAll0, lay_dt (t := l) fun u hu => h u (List.mem_append_left _ hu), lay_dt (t := r) fun u hu => h u (List.mem_append_right _ hu)]
theorem depth_dt : ∀ t : P22.Tr, (dt t).depth ≤ depth t + 2
  | .leaf u => by simp [dt, PyData.depth, depth]
  | .node l r => by
    have h1 := depth_dt l
    have h2 := depth_dt r
    simp only [dt, PyData.depth, PyData.depthAll, depth]
    omega
theorem eqv_dt : ∀ t u : P22.Tr, PyData.eqv (dt t) (dt u) = decide (t = u)
  | .leaf a, .leaf b => by
    show (S a == S b) = _
    rw [SX.S_beq_eq]
    simp
  | .leaf a, .node l r => by
    show false = _
    simp
  | .node l r, .leaf a => by
    show false = _
    simp
  | .node l r, .node l' r' => by
    show (PyData.eqv (dt l) (dt l') && (PyData.eqv (dt r) (dt r') && true)) = _
    rw [eqv_dt l l', eqv_dt r r', Bool.and_true, Bool.eq_iff_iff]
    simp
section
variable {P : Program} {w : World} {K : PySem.W.Frag} {mg : Str → Option Value} {base : Heap} {f : Addr} {fd : FuncData}
theorem shaped_dt {t : P22.Tr} (h : ∀ u ∈ P22.leaves t, PyData.strOk (S u) = true) (d : depth t ≤ 60) : SeqAt.shaped (dt t) = true := by
  unfold SeqAt.shaped
  have := depth_dt t
  rw [lay_dt h, Bool.true_and, decide_eq_true_eq]
  omega
theorem sc57 : FnScope ["tree", "old", "new"] ["tree", "old", "new"] (defScope (top 61)) := fnScope_by (by decide +kernel)
def spPut (n : Nat) : Sp := fun vs H Q _ => ∃ v o x t told tnew, vs = [v, o, x] ∧ TrAt H t v ∧ TrAt H told o ∧ TrAt H tnew x ∧ depth t ≤ n ∧ depth t ≤ 60 ∧ depth told ≤ 60 ∧ (∀ u ∈ P22.leaves t, PyData.strOk (S u) = true) ∧ (∀ u ∈ P22.leaves told, PyData.strOk (S u) = true) ∧
  ∀ H' v', Same H H' → TrAt H' (P22.put told tnew t) v' → Q v' H'
theorem ok_put_step (m : Mg K mg) (F : Fn K "_law_put" 61 f fd) (g : mg "_law_put" = some (.ref f)) (n : Nat) (c__law_put : n = 0 ∨ Cal P w K mg base n "_law_put" (spPut (n - 1)) []) : Cal P w K mg base (n + 1) "_law_put" (spPut n) [] := by
  have sc := sc57
  refine calD F g sc (fun _ _ _ _ _ _ us hl => match us, hl with | [_, _, _], _ => rfl) ?_ fun cdv A outer s H vs Q E hr h => ?_
  · rintro vs H Q E ⟨v, o, x, t, told, tnew, rfl, _⟩
    rfl
  · obtain ⟨v, o, x, t, told, tnew, rfl, tr, tro, trx, dp, d60, do60, st, so, q⟩ := h
    have room64 : (A.deeper (envOfC "_law_put" (defScope (top 61)) s.heap.objs.size f cdv)).units + 64 < cLine := by have := hr.un; omega
    rcases c__law_put with rfl | c__law_put
    · refine ⟨_, pss_cons (ps_if (pt_cmpR (op_eqD room64) (pv 0) (pv 1) (nomark _)) (pss_one (ps_ret (pv 2))) pss_nil) (pss_cons (ps_if (pt_val (pe_callB call_isB (by rfl) m.isinstance_ boot_isinstance (pa_cons (pv 0) (pa_cons (pe_bltn (v := .ty "str") (by rfl) m.str_ boot_str rfl) pa_nil)))) (pss_one (ps_ret (pv 0))) pss_nil) pss_never), ?_⟩
      cases t with
      | node l r => exact absurd dp (by show ¬ (max (depth l) (depth r) + 1 ≤ 0); omega)
      | leaf u =>
        obtain rfl : v = .str (S u) := tr
        simp only [L2.start, cxOf, tRet, tAndV, tOrV, tNotV, tCB, tCons, tNil, tVar, tC, tOp, tUn, tTest, tB, tIf, tIfS, tSeq, tAsg, tAnd, tOr, tNot, gName, tNext, tCall, tChain, rI, rI0, rEq, rNe, rGcd, rU, tM1, tM0, tSl, tPart, tNoPart, gTup, gCons, gNil, gSub, tTup, tLst, tPar, L2.rI, List.map_cons, List.map_nil, List.length_cons, List.length_nil, List.cons_append, List.nil_append, List.append_nil, List.getElem?_cons_zero, List.getElem?_cons_succ, List.set_cons_zero, List.set_cons_succ, Option.some.injEq, exists_eq_left, exists_eq_left', exists_eq_right, exists_and_left, exists_and_right, List.cons.injEq, and_true, true_and, V.int.injEq, V.str.injEq, V.bl.injEq, V.ref.injEq, List.replicate, Nat.reduceAdd, Nat.reduceSub, reduceCtorEq, false_and, and_false, if_true, if_false, Bool.false_eq_true, Bool.not_true, Bool.not_false, decide_eq_true_eq, exists_false, or_false, false_or]
        refine ⟨_, _, dp_tr (t := .leaf u) rfl, dp_tr tro, shaped_dt st d60, shaped_dt so do60, ⟨_, rfl, ?_⟩⟩
        rw [eqv_dt]
        by_cases c : P22.Tr.leaf u = told
        · rw [if_pos (by simp [c])]
          exact q _ _ (Same.refl _) (by rw [P22.put, if_pos c]; exact trx)
        · rw [if_neg (by simp [c])]
          exact isi_t (T := "str") kd_str (q _ _ (Same.refl _) (by rw [P22.put, if_neg c]; rfl))
    · refine ⟨_, (pss_cons (ps_if (pt_cmpR (op_eqD room64) (pv 0) (pv 1) (nomark _))
        (pss_one (ps_ret (pv 2)))
        pss_nil)
      (pss_cons (ps_if (pt_val (pe_callB call_isB (by rfl) m.isinstance_ boot_isinstance (pa_cons (pv 0) (pa_cons (pe_bltn (v := .ty "str") (by rfl) m.str_ boot_str rfl) pa_nil))))
        (pss_one (ps_ret (pv 0)))
        pss_nil)
      (pss_one (ps_ret (pe_tup (pa_cons (pe_c c__law_put hr (Nat.le_refl _) (by rfl) (pa_cons (pe_ix ix_tup (pv 0) pe_int (fun _ _ => rfl)) (pa_cons (pv 1) (pa_cons (pv 2) pa_nil)))) (pa_cons (pe_c c__law_put hr (Nat.le_refl _) (by rfl) (pa_cons (pe_ix ix_tup (pv 0) pe_int (fun _ _ => rfl)) (pa_cons (pv 1) (pa_cons (pv 2) pa_nil)))) pa_nil))))))), ?_⟩
      simp only [L2.start, cxOf, tRet, tAndV, tOrV, tNotV, tCB, tCons, tNil, tVar, tC, tOp, tUn, tTest, tB, tIf, tIfS, tSeq, tAsg, tAnd, tOr, tNot, gName, tNext, tCall, tChain, rI, rI0, rEq, rNe, rGcd, rU, tM1, tM0, tSl, tPart, tNoPart, gTup, gCons, gNil, gSub, tTup, tLst, tPar, L2.rI, List.map_cons, List.map_nil, List.length_cons, List.length_nil, List.cons_append, List.nil_append, List.append_nil, List.getElem?_cons_zero, List.getElem?_cons_succ, List.set_cons_zero, List.set_cons_succ, Option.some.injEq, exists_eq_left, exists_eq_left', exists_eq_right, exists_and_left, exists_and_right, List.cons.injEq, and_true, true_and, V.int.injEq, V.str.injEq, V.bl.injEq, V.ref.injEq, List.replicate, Nat.reduceAdd, Nat.reduceSub, reduceCtorEq, false_and, and_false, if_true, if_false, Bool.false_eq_true, Bool.not_true, Bool.not_false, decide_eq_true_eq, exists_false, or_false, false_or, spPut]
      cases t with
      | leaf u =>
        obtain rfl : v = .str (S u) := tr
        refine ⟨_, _, dp_tr (t := .leaf u) rfl, dp_tr tro, shaped_dt st d60, shaped_dt so do60, ⟨_, rfl, ?_⟩⟩
        rw [eqv_dt]
        by_cases c : P22.Tr.leaf u = told
        · rw [if_pos (by simp [c])]
          exact q _ _ (Same.refl _) (by rw [P22.put, if_pos c]; exact trx)
        · rw [if_neg (by simp [c])]
          exact isi_t (T := "str") kd_str (q _ _ (Same.refl _) (by rw [P22.put, if_neg c]; rfl))
      | node l r =>
        refine ⟨_, _, dp_tr tr, dp_tr tro, shaped_dt st d60, shaped_dt so do60, ⟨_, rfl, ?_⟩⟩
        rw [eqv_dt]
        by_cases c : P22.Tr.node l r = told
        · rw [if_pos (by simp [c])]
          exact q _ _ (Same.refl _) (by rw [P22.put, if_pos c]; exact trx)
        rw [if_neg (by simp [c])]
        obtain ⟨a, y, z, rfl, ha, hl, hr2⟩ := tr
        have dp2 : max (depth l) (depth r) + 1 ≤ n := dp
        have dp3 : max (depth l) (depth r) + 1 ≤ 60 := d60
        refine isi_f (T := "str") (kd_tup ha) (ixT ha 0 rfl ?_)
        have sl : ∀ u ∈ P22.leaves l, PyData.strOk (S u) = true := fun u hu => st u (List.mem_append_left _ hu)
        have sr : ∀ u ∈ P22.leaves r, PyData.strOk (S u) = true := fun u hu => st u (List.mem_append_right _ hu)
        refine ⟨_, _, _, ⟨rfl, rfl, rfl⟩, l, hl, told, tro, tnew, trx, by omega, by omega, do60, sl, so, fun H1 v1 s1 t1 => ixT (s1 _ _ ha) 1 rfl ⟨_, _, _, ⟨rfl, rfl, rfl⟩, r, hr2.same s1, told, tro.same s1, tnew, trx.same s1, by omega, by omega, do60, sr, so, fun H2 v2 s2 t2 => ⟨small (by decide), fun p hp => ?_⟩⟩⟩
        have s3 := same_new (o := .tup [v1, v2]) hp
        refine q _ _ ((s1.trans s2).trans s3) ?_
        rw [P22.put, if_neg c]
        exact ⟨p, v1, v2, rfl, upd_same, t1.same (s2.trans s3), t2.same s3⟩
theorem ok_put (m : Mg K mg) (F : Fn K "_law_put" 61 f fd) (g : mg "_law_put" = some (.ref f)) : ∀ n, Cal P w K mg base (n + 1) "_law_put" (spPut n) []
  | 0 => ok_put_step m F g 0 (.inl rfl)
  | n + 1 => ok_put_step m F g (n + 1) (.inr (ok_put m F g n))
end
end W22

set_option Elab.async false
set_option linter.all false
set_option maxRecDepth 100000
set_option maxHeartbeats 4000000
/-! K22: the bag and what is drawn from it -/
namespace W22
open PySem PySem.Spec PyProof.Rows L2 Lay
open SX (S S_len S_cat S_tl)
open C8 (Cal pe_c pe_gc fnScope_by E0 sl_txt rSlX)
/-- the bag at b, as this law lays it -/
def Bag (H : Hp) (b : Addr) : Prop := ∃ (l : Addr) (ns : List Int) (pos : Nat) (big mixed cnt left : Int), H b = some (.lst [.ref l, .int (pos : Int), .int big, .int left, .int mixed, .int cnt]) ∧ H l = some (.lst (ns.map V.int)) ∧ l ≠ b ∧ 0 ≤ mixed ∧ mixed < 2147483587
/-- all but the bag stays -/
structure Ex (b : Addr) (H H' : Hp) : Prop where
  keep : ∀ a o, a ≠ b → H a = some o → H' a = some o
  bag : Bag H' b
  list : ∀ l r, H b = some (.lst (.ref l :: r)) → ∃ r', H' b = some (.lst (.ref l :: r'))
section
variable {P : Program} {w : World} {K : PySem.W.Frag} {mg : Str → Option Value} {base : Heap} {f : Addr} {fd : FuncData}
theorem sc39 : FnScope ["script", "mixed", "item"] ["script"] (defScope (top 43)) := fnScope_by (by decide +kernel)
def spBag (K : PySem.W.Frag) : Sp := fun vs H Q _ => ∃ (a : Addr) (ns : List Int), vs = [.ref a] ∧ SqL K H a (ns.map V.int) ∧ ∀ H' b, Same H H' → H b = none → Bag H' b → Q (.ref b) H'
theorem ok_bag (m : Mg K mg) (F : Fn K "_law_bag" 43 f fd) (g : mg "_law_bag" = some (.ref f)) : Cal P w K mg base 1 "_law_bag" (spBag K) [] := by
  have sc := sc39
  refine calD F g sc (fun _ _ _ _ _ _ us hl => match us, hl with | [_], _ => rfl) ?_ fun cdv A outer s H vs Q E hr h => ?_
  · rintro vs H Q E ⟨x, _, rfl, _⟩
    rfl
  · obtain ⟨a, ns, rfl, hS, q⟩ := h
    refine ⟨_, (pss_cons (ps_set (i := 1) sc.nd rfl (.inl rfl) pe_int)
      (pss_cons (ps_for pown rfl (pi_list (pe_slice sl_list (pv 0) po_none (po_some pe_int))) (pg_name (i := 2) sc.nd rfl (.inl rfl))
        (pss_one (ps_set (i := 1) sc.nd rfl (.inl rfl) (pe_op op_mod (pe_callTy call_int1 (by rfl) m.int_ boot_int (pa_cons (pe_op op_add (pe_op op_add (pe_op op_mul (pv 1) pe_int) (pe_op op_mod (pe_callTy call_int1 (by rfl) m.int_ boot_int (pa_cons (pv 2) pa_nil)) pe_int)) pe_int) pa_nil)) pe_int))))
      (pss_one (ps_ret (pe_lst (pa_cons (pe_callTy call_list_of (by rfl) m.list_ boot_list (pa_cons (pe_slice sl_list (pv 0) po_none (po_some pe_int)) pa_nil)) (pa_cons pe_int (pa_cons pe_int (pa_cons pe_int (pa_cons (pv 1) (pa_cons pe_int pa_nil))))))))))), ?_⟩
    simp only [L2.start, cxOf, tRet, tAndV, tOrV, tNotV, tCB, tCons, tNil, tVar, tC, tOp, tUn, tTest, tB, tSeq, tAsg, tNot, gName, tNext, tCall, tChain, rI, rI0, rEq, rNe, rGcd, rU, tM1, tM0, tSl, tFmtB, tJs, tPart, tNoPart, gTup, gCons, gNil, gSub, tTup, tLst, tPar, L2.rI, List.map_cons, List.map_nil, List.length_cons, List.length_nil, List.cons_append, List.nil_append, List.append_nil, List.getElem?_cons_zero, List.getElem?_cons_succ, List.set_cons_zero, List.set_cons_succ, Option.some.injEq, exists_eq_left, exists_eq_left', exists_eq_right, exists_and_left, exists_and_right, List.cons.injEq, and_true, true_and, V.int.injEq, V.str.injEq, V.bl.injEq, V.ref.injEq, List.replicate, Nat.reduceAdd, Nat.reduceSub, reduceCtorEq, false_and, and_false, if_true, if_false, Bool.false_eq_true, Bool.not_true, Bool.not_false, decide_eq_true_eq, exists_false, or_false, false_or]
    have md : ∀ z : Int, 0 ≤ z % 2147483587 ∧ z % 2147483587 < 2147483587 := fun z => ⟨Int.emod_nonneg _ (by decide), Int.emod_lt_of_pos _ (by decide)⟩
    have cutI : ∀ ns' : List Int, ∃ ms : List Int, cutV (ns'.map V.int) none (some 63) = ms.map V.int := fun ns' => by
      unfold cutV
      rw [← List.map_drop, ← List.map_take]
      exact ⟨_, rfl⟩
    obtain ⟨ms, hms⟩ := cutI ns
    refine for_list_made (o := fun H _ => H) (xs := ms.map V.int) (fun R k => ?_) (fun l hl => ?_)
    · simp only [L2.start, cxOf, tRet, tAndV, tOrV, tNotV, tCB, tCons, tNil, tVar, tC, tOp, tUn, tTest, tB, tIf, tIfS, tSeq, tAsg, tAnd, tOr, tNot, gName, tNext, tCall, tChain, rI, rI0, rEq, rNe, rGcd, rU, tM1, tM0, tSl, tFmtB, tJs, tPart, tNoPart, gTup, gCons, gNil, gSub, tTup, tLst, tPar, L2.rI, List.map_cons, List.map_nil, List.length_cons, List.length_nil, List.cons_append, List.nil_append, List.append_nil, List.getElem?_cons_zero, List.getElem?_cons_succ, List.set_cons_zero, List.set_cons_succ, Option.some.injEq, exists_eq_left, exists_eq_left', exists_eq_right, exists_and_left, exists_and_right, List.cons.injEq, and_true, true_and, V.int.injEq, V.str.injEq, V.bl.injEq, V.ref.injEq, List.replicate, Nat.reduceAdd, Nat.reduceSub, reduceCtorEq, false_and, and_false, if_true, if_false, Bool.false_eq_true, Bool.not_true, Bool.not_false, decide_eq_true_eq, exists_false, or_false, false_or, rSlL]
      exact ⟨_, hS, fun p hp => by rw [hms]; exact k p hp⟩
    · have s0 : Same H (upd H l (.lst (ms.map V.int))) := same_new hl
      have l0 : (upd H l (.lst (ms.map V.int))) l = some (.lst (ms.map V.int)) := upd_same
      refine ⟨fun i σ' H' => Same (upd H l (.lst (ms.map V.int))) H' ∧ ∃ x y, σ' = [some (.ref a), some (.int x), y] ∧ 0 ≤ x ∧ x < 2147483587, ⟨Same.refl _, 17788, none, rfl, by decide, by decide⟩, fun i σ' H' _ hP => SqL.of (hP.1 _ _ l0), ?_, ?_⟩
      · rintro i x σ' H' hx ⟨s1, y, z, rfl, y1, y2⟩
        obtain ⟨v, rfl⟩ : ∃ v, x = .int v := by
          rw [List.getElem?_map] at hx
          cases e : ms[i]? with
          | none => rw [e] at hx; cases hx
          | some v => rw [e] at hx; exact ⟨v, (Option.some.inj hx).symm⟩
        simp only [L2.start, cxOf, tRet, tAndV, tOrV, tNotV, tCB, tCons, tNil, tVar, tC, tOp, tUn, tTest, tB, tIf, tIfS, tSeq, tAsg, tAnd, tOr, tNot, gName, tNext, tCall, tChain, rI, rI0, rEq, rNe, rGcd, rU, tM1, tM0, tSl, tFmtB, tJs, tPart, tNoPart, gTup, gCons, gNil, gSub, tTup, tLst, tPar, L2.rI, List.map_cons, List.map_nil, List.length_cons, List.length_nil, List.cons_append, List.nil_append, List.append_nil, List.getElem?_cons_zero, List.getElem?_cons_succ, List.set_cons_zero, List.set_cons_succ, Option.some.injEq, exists_eq_left, exists_eq_left', exists_eq_right, exists_and_left, exists_and_right, List.cons.injEq, and_true, true_and, V.int.injEq, V.str.injEq, V.bl.injEq, V.ref.injEq, List.replicate, Nat.reduceAdd, Nat.reduceSub, reduceCtorEq, false_and, and_false, if_true, if_false, Bool.false_eq_true, Bool.not_true, Bool.not_false, decide_eq_true_eq, exists_false, or_false, false_or]
        exact ⟨.inr (by decide), by decide, by decide, s1, _, ⟨rfl, _, rfl⟩, (md _).1, (md _).2⟩
      · rintro σ' H' ⟨s1, y, z, rfl, y1, y2⟩
        simp only [L2.start, cxOf, tRet, tAndV, tOrV, tNotV, tCB, tCons, tNil, tVar, tC, tOp, tUn, tTest, tB, tIf, tIfS, tSeq, tAsg, tAnd, tOr, tNot, gName, tNext, tCall, tChain, rI, rI0, rEq, rNe, rGcd, rU, tM1, tM0, tSl, tFmtB, tJs, tPart, tNoPart, gTup, gCons, gNil, gSub, tTup, tLst, tPar, L2.rI, List.map_cons, List.map_nil, List.length_cons, List.length_nil, List.cons_append, List.nil_append, List.append_nil, List.getElem?_cons_zero, List.getElem?_cons_succ, List.set_cons_zero, List.set_cons_succ, Option.some.injEq, exists_eq_left, exists_eq_left', exists_eq_right, exists_and_left, exists_and_right, List.cons.injEq, and_true, true_and, V.int.injEq, V.str.injEq, V.bl.injEq, V.ref.injEq, List.replicate, Nat.reduceAdd, Nat.reduceSub, reduceCtorEq, false_and, and_false, if_true, if_false, Bool.false_eq_true, Bool.not_true, Bool.not_false, decide_eq_true_eq, exists_false, or_false, false_or, rSlL]
        have s2 := s0.trans s1
        refine ⟨_, s2.seq hS, fun p hp => ?_⟩
        rw [hms]
        refine ⟨_, .inl (SqL.of upd_same), fun l2 hl2 => ⟨small (by decide), fun b hb => ?_⟩⟩
        have s3 := (s2.trans (same_new hp)).trans (same_new (o := .lst (ms.map V.int)) hl2)
        have s4 := s3.trans (same_new (o := .lst [V.ref l2, V.int 0, V.int 0, V.int 0, V.int y, V.int 0]) hb)
        have nb : l2 ≠ b := fun z => by
          rw [← z, upd_same] at hb
          cases hb
        exact q _ b s4 (s3.free hb) ⟨l2, ms, 0, 0, y, 0, 0, upd_same, by rw [upd_ne nb]; exact upd_same, nb, y1, y2⟩
theorem sc40 : FnScope ["bag", "size", "item", "digit"] ["bag", "size"] (defScope (top 44)) := fnScope_by (by decide +kernel)
def spDraw : Sp := fun vs H Q _ => ∃ b size, vs = [.ref b, .int size] ∧ Bag H b ∧ 0 < size ∧ size < 1073741824 ∧ ∀ H' d, Ex b H H' → 0 ≤ d → d < size → Q (.int d) H'
theorem ok_draw (m : Mg K mg) (F : Fn K "_law_draw" 44 f fd) (g : mg "_law_draw" = some (.ref f)) : Cal P w K mg base 1 "_law_draw" spDraw [] := by
  have sc := sc40
  refine calD F g sc (fun _ _ _ _ _ _ us hl => match us, hl with | [_, _], _ => rfl) ?_ fun cdv A outer s H vs Q E hr h => ?_
  · rintro vs H Q E ⟨x, _, rfl, _⟩
    rfl
  · obtain ⟨b, size, rfl, bag, p1, p2, q⟩ := h
    refine ⟨_, (pss_cons (ps_asg (pe_op op_add (pe_ix ix_list (pv 0) pe_int (fun _ _ => rfl)) pe_int) (pg_sub (pv 0) pe_int set_list))
      (pss_cons (ps_if ((pw_and (pt_cmpR op_eq (pe_ix ix_list (pv 0) pe_int (fun _ _ => rfl)) pe_int (nomark _)) (pw_and1 (pt_cmpR op_lt (pe_ix ix_list (pv 0) pe_int (fun _ _ => rfl)) (pe_callB call_len (by rfl) m.len_ boot_len (pa_cons (pe_ix ix_list (pv 0) pe_int (fun _ _ => rfl)) pa_nil)) (nomark _))))).pt
        (pss_cons (ps_set (i := 2) sc.nd rfl (.inl rfl) (pe_ix ix_list (pe_ix ix_list (pv 0) pe_int (fun _ _ => rfl)) (pe_ix ix_list (pv 0) pe_int (fun _ _ => rfl)) (fun _ _ => rfl)))
        (pss_cons (ps_asg (pe_op op_add (pe_ix ix_list (pv 0) pe_int (fun _ _ => rfl)) pe_int) (pg_sub (pv 0) pe_int set_list))
        (pss_one (ps_if (pt_cmpR op_ge (pv 2) (pe_op op_pow pe_int pe_int) (nomark _))
          (pss_cons (ps_asg (pv 2) (pg_sub (pv 0) pe_int set_list))
          (pss_one (ps_asg pe_int (pg_sub (pv 0) pe_int set_list))))
          (pss_one (ps_asg (pe_op op_mod (pe_callTy call_int1 (by rfl) m.int_ boot_int (pa_cons (pe_op op_add (pe_op op_add (pe_op op_mul (pe_ix ix_list (pv 0) pe_int (fun _ _ => rfl)) pe_int) (pe_op op_mul (pe_op op_mod (pe_callTy call_int1 (by rfl) m.int_ boot_int (pa_cons (pv 2) pa_nil)) pe_int) pe_int)) pe_int) pa_nil)) pe_int) (pg_sub (pv 0) pe_int set_list)))))))
        pss_nil)
      (pss_cons (ps_if (pt_cmpR op_gt (pe_ix ix_list (pv 0) pe_int (fun _ _ => rfl)) pe_int (nomark _))
        (pss_cons (ps_set (i := 3) sc.nd rfl (.inl rfl) (pe_op op_mod (pe_callTy call_int1 (by rfl) m.int_ boot_int (pa_cons (pe_ix ix_list (pv 0) pe_int (fun _ _ => rfl)) pa_nil)) (pv 1)))
        (pss_cons (ps_asg (pe_op op_sub (pe_ix ix_list (pv 0) pe_int (fun _ _ => rfl)) pe_int) (pg_sub (pv 0) pe_int set_list))
        (pss_cons (ps_asg (pe_ifExp (pt_cmpR op_gt (pe_ix ix_list (pv 0) pe_int (fun _ _ => rfl)) pe_int (nomark _)) (pe_op op_fdiv (pe_ix ix_list (pv 0) pe_int (fun _ _ => rfl)) (pv 1)) pe_int) (pg_sub (pv 0) pe_int set_list))
        (pss_one (ps_ret (pv 3))))))
        pss_nil)
      (pss_cons (ps_asg (pe_op op_mod (pe_callTy call_int1 (by rfl) m.int_ boot_int (pa_cons (pe_op op_add (pe_op op_add (pe_op op_pow (pe_ix ix_list (pv 0) pe_int (fun _ _ => rfl)) pe_int) (pe_op op_mul (pe_ix ix_list (pv 0) pe_int (fun _ _ => rfl)) pe_int)) pe_int) pa_nil)) pe_int) (pg_sub (pv 0) pe_int set_list))
      (pss_one (ps_ret (pe_op op_mod (pe_callTy call_int1 (by rfl) m.int_ boot_int (pa_cons (pe_op op_add (pe_op op_fdiv (pe_ix ix_list (pv 0) pe_int (fun _ _ => rfl)) pe_int) (pe_op op_mul (pe_op op_mod (pe_callTy call_int1 (by rfl) m.int_ boot_int (pa_cons (pe_ix ix_list (pv 0) pe_int (fun _ _ => rfl)) pa_nil)) pe_int) pe_int)) pa_nil)) (pv 1)))))))), ?_⟩
    obtain ⟨l, ns, pos, big, mixed, cnt, left, hb, hl, nb, m1, m2⟩ := bag
    -- the bag's list, all else as at the entry
    have done : ∀ H' pos' big' mixed' cnt' left' d, (∀ a o, a ≠ b → H a = some o → H' a = some o) → H' b = some (.lst [.ref l, .int ((pos' : Nat) : Int), .int big', .int left', .int mixed', .int cnt']) → 0 ≤ mixed' → mixed' < 2147483587 → 0 ≤ d → d < size → Q (.int d) H' :=
      fun H' pos' big' mixed' cnt' left' d k h1 h2 h3 h4 h5 => q H' d ⟨k, ⟨l, ns, pos', big', mixed', cnt', left', h1, k _ _ nb hl, nb, h2, h3⟩, fun l2 r e => by
        rw [hb] at e
        cases e
        exact ⟨_, h1⟩⟩ h4 h5
    have set : ∀ {H' : Hp} {o : HO}, (∀ a o, a ≠ b → H a = some o → H' a = some o) → ∀ a u, a ≠ b → H a = some u → (upd H' b o) a = some u := fun k a u n e => by
      rw [upd_ne n]
      exact k a u n e
    have md : ∀ z : Int, 0 ≤ z % 2147483579 ∧ z % 2147483579 < 2147483587 := fun z => ⟨Int.emod_nonneg _ (by decide), Int.lt_trans (Int.emod_lt_of_pos _ (by decide)) (by decide)⟩
    have sm : ∀ {i c : Int}, -(2 ^ 64) < c ∧ c < 2 ^ 64 → CMul i c := fun h => .inr h
    refine seq_cut (fun σ' H' => σ' = [some (.ref b), some (.int size), none, none] ∧ (∀ a o, a ≠ b → H a = some o → H' a = some o) ∧ H' b = some (.lst [.ref l, .int (pos : Int), .int big, .int left, .int mixed, .int (cnt + 1)])) ?_ ?_
    · intro D' e nx
      simp only [L2.start, cxOf, tRet, tAndV, tOrV, tNotV, tCB, tCons, tNil, tVar, tC, tOp, tUn, tTest, tB, tIf, tIfS, tSeq, tAsg, tAnd, tOr, tNot, gName, tNext, tCall, tChain, rI, rI0, rEq, rNe, rGcd, rU, tM1, tM0, tSl, tFmtB, tJs, tPart, tNoPart, gTup, gCons, gNil, gSub, tTup, tLst, tPar, L2.rI, List.map_cons, List.map_nil, List.length_cons, List.length_nil, List.cons_append, List.nil_append, List.append_nil, List.getElem?_cons_zero, List.getElem?_cons_succ, List.set_cons_zero, List.set_cons_succ, Option.some.injEq, exists_eq_left, exists_eq_left', exists_eq_right, exists_and_left, exists_and_right, List.cons.injEq, and_true, true_and, V.int.injEq, V.str.injEq, V.bl.injEq, V.ref.injEq, List.replicate, Nat.reduceAdd, Nat.reduceSub, reduceCtorEq, false_and, and_false, if_true, if_false, Bool.false_eq_true, Bool.not_true, Bool.not_false, decide_eq_true_eq, exists_false, or_false, false_or]
      exact ixL (SqL.of hb) 5 rfl ⟨cnt, rfl, setL hb 5 (by simp) (nx _ _ ⟨rfl, set fun _ _ _ h => h, upd_same⟩)⟩
    · rintro σ' H1 ⟨rfl, k1, b1⟩
      refine seq_cut (fun σ' H' => (∃ y, σ' = [some (.ref b), some (.int size), y, none]) ∧ (∀ a o, a ≠ b → H a = some o → H' a = some o) ∧ ∃ (pos' : Nat) (big' mixed' left' : Int), 0 ≤ mixed' ∧ mixed' < 2147483587 ∧ H' b = some (.lst [.ref l, .int (pos' : Int), .int big', .int left', .int mixed', .int (cnt + 1)])) ?_ ?_
      · intro D' e nx
        simp only [L2.start, cxOf, tRet, tAndV, tOrV, tNotV, tCB, tCons, tNil, tVar, tC, tOp, tUn, tTest, tB, tIf, tIfS, tSeq, tAsg, tAnd, tOr, tNot, gName, tNext, tCall, tChain, rI, rI0, rEq, rNe, rGcd, rU, tM1, tM0, tSl, tFmtB, tJs, tPart, tNoPart, gTup, gCons, gNil, gSub, tTup, tLst, tPar, L2.rI, List.map_cons, List.map_nil, List.length_cons, List.length_nil, List.cons_append, List.nil_append, List.append_nil, List.getElem?_cons_zero, List.getElem?_cons_succ, List.set_cons_zero, List.set_cons_succ, Option.some.injEq, exists_eq_left, exists_eq_left', exists_eq_right, exists_and_left, exists_and_right, List.cons.injEq, and_true, true_and, V.int.injEq, V.str.injEq, V.bl.injEq, V.ref.injEq, List.replicate, Nat.reduceAdd, Nat.reduceSub, reduceCtorEq, false_and, and_false, if_true, if_false, Bool.false_eq_true, Bool.not_true, Bool.not_false, decide_eq_true_eq, exists_false, or_false, false_or]
        refine ixL (SqL.of b1) 2 rfl ⟨rfl, ?_⟩
        have stay : D'.nx [some (.ref b), some (.int size), none, none] H1 := nx _ _ ⟨⟨none, rfl⟩, k1, pos, big, mixed, left, m1, m2, b1⟩
        by_cases h0 : V.int big = V.int 0
        · rw [if_pos h0]
          have l1 : SqL K H1 l (ns.map V.int) := SqL.of (k1 _ _ nb hl)
          refine ixL (SqL.of b1) 1 rfl (ixL (SqL.of b1) 0 rfl ⟨_, len_L l1, pos, rfl, ?_⟩)
          by_cases hp : (pos : Int) < ((ns.map V.int).length : Int)
          · rw [if_pos hp]
            have hlt : pos < ns.length := by
              rw [List.length_map] at hp
              omega
            have it : (ns.map V.int)[pos]? = some (.int ns[pos]) := by
              rw [List.getElem?_map, List.getElem?_eq_getElem hlt] <;> rfl
            refine ixL (SqL.of b1) 0 rfl (ixL (SqL.of b1) 1 rfl (ixL l1 pos it (ixL (SqL.of b1) 1 rfl ⟨(pos : Int), rfl, setL b1 1 (by simp) ⟨⟨by decide, by decide, by decide⟩, ns[pos], rfl, ?_⟩⟩)))
            have k2 : ∀ a o, a ≠ b → H a = some o → (upd H1 b (.lst ([V.ref l, V.int (pos : Int), V.int big, V.int left, V.int mixed, V.int (cnt + 1)].set 1 (V.int ((pos : Int) + 1))))) a = some o := set k1
            have b2 : (upd H1 b (.lst ([V.ref l, V.int (pos : Int), V.int big, V.int left, V.int mixed, V.int (cnt + 1)].set 1 (V.int ((pos : Int) + 1))))) b = some (.lst [V.ref l, V.int ((pos + 1 : Nat) : Int), V.int big, V.int left, V.int mixed, V.int (cnt + 1)]) := upd_same
            revert k2 b2
            generalize upd H1 b (.lst ([V.ref l, V.int (pos : Int), V.int big, V.int left, V.int mixed, V.int (cnt + 1)].set 1 (V.int ((pos : Int) + 1)))) = H2
            intro k2 b2
            by_cases hbig : (10 : Int) ^ Int.toNat 18 ≤ ns[pos]
            · rw [if_pos hbig]
              refine setL b2 2 (by simp) ?_
              refine setL (xs := [V.ref l, V.int ((pos + 1 : Nat) : Int), V.int ns[pos], V.int left, V.int mixed, V.int (cnt + 1)]) upd_same 3 (by simp) ?_
              exact nx _ _ ⟨⟨_, rfl⟩, set (set k2), pos + 1, ns[pos], mixed, 60, m1, m2, upd_same⟩
            · rw [if_neg hbig]
              refine ixL (SqL.of b2) 4 rfl ⟨mixed, rfl, sm (by decide), .inl ⟨_, rfl, by decide, sm (by decide), by decide, ?_⟩⟩
              exact setL b2 4 (by simp) (nx _ _ ⟨⟨_, rfl⟩, set k2, pos + 1, big, _, left, (md _).1, (md _).2, upd_same⟩)
          · rw [if_neg hp]
            exact stay
        · rw [if_neg h0]
          exact stay
      · rintro σ' H2 ⟨⟨y, rfl⟩, k2, pos', big', mixed', left', n1, n2, b2⟩
        simp only [L2.start, cxOf, tRet, tAndV, tOrV, tNotV, tCB, tCons, tNil, tVar, tC, tOp, tUn, tTest, tB, tIf, tIfS, tSeq, tAsg, tAnd, tOr, tNot, gName, tNext, tCall, tChain, rI, rI0, rEq, rNe, rGcd, rU, tM1, tM0, tSl, tFmtB, tJs, tPart, tNoPart, gTup, gCons, gNil, gSub, tTup, tLst, tPar, L2.rI, List.map_cons, List.map_nil, List.length_cons, List.length_nil, List.cons_append, List.nil_append, List.append_nil, List.getElem?_cons_zero, List.getElem?_cons_succ, List.set_cons_zero, List.set_cons_succ, Option.some.injEq, exists_eq_left, exists_eq_left', exists_eq_right, exists_and_left, exists_and_right, List.cons.injEq, and_true, true_and, V.int.injEq, V.str.injEq, V.bl.injEq, V.ref.injEq, List.replicate, Nat.reduceAdd, Nat.reduceSub, reduceCtorEq, false_and, and_false, if_true, if_false, Bool.false_eq_true, Bool.not_true, Bool.not_false, decide_eq_true_eq, exists_false, or_false, false_or]
        refine ixL (SqL.of b2) 2 rfl ⟨big', rfl, ?_⟩
        by_cases hg : 0 < big'
        · rw [if_pos hg]
          refine ixL (SqL.of b2) 2 rfl (.inl ⟨big', rfl, p1, ?_⟩)
          refine ixL (SqL.of b2) 3 rfl ⟨left', rfl, setL b2 3 (by simp) ?_⟩
          have dg : 0 ≤ big' % size ∧ big' % size < size := ⟨Int.emod_nonneg _ (by omega), Int.emod_lt_of_pos _ p1⟩
          have b3 : (upd H2 b (.lst ([V.ref l, V.int (pos' : Int), V.int big', V.int left', V.int mixed', V.int (cnt + 1)].set 3 (V.int (left' - 1))))) b = some (.lst [V.ref l, V.int (pos' : Int), V.int big', V.int (left' - 1), V.int mixed', V.int (cnt + 1)]) := upd_same
          refine ixL (SqL.of b3) 3 rfl ⟨left' - 1, rfl, ?_⟩
          by_cases h5 : 0 < left' - 1
          · rw [if_pos h5]
            exact ixL (SqL.of b3) 2 rfl ⟨big', rfl, ⟨p1, p2⟩, setL b3 2 (by simp) (done _ pos' _ _ _ _ _ (set (set k2)) upd_same n1 n2 dg.1 dg.2)⟩
          · rw [if_neg h5]
            exact setL b3 2 (by simp) (done _ pos' _ _ _ _ _ (set (set k2)) upd_same n1 n2 dg.1 dg.2)
        · rw [if_neg hg]
          refine ixL (SqL.of b2) 4 rfl ⟨mixed', rfl, ⟨by decide, by decide, by omega⟩, ?_⟩
          refine ixL (SqL.of b2) 5 rfl ⟨cnt + 1, rfl, sm (by decide), ?_⟩
          refine ⟨by decide, setL b2 4 (by simp) ?_⟩
          generalize hz : (mixed' ^ Int.toNat 3 + (cnt + 1) * 1299721 + 60013) % 2147483579 = z
          have mz := md (mixed' ^ Int.toNat 3 + (cnt + 1) * 1299721 + 60013)
          rw [hz] at mz
          have b3 : (upd H2 b (.lst ([V.ref l, V.int (pos' : Int), V.int big', V.int left', V.int mixed', V.int (cnt + 1)].set 4 (V.int z)))) b = some (.lst [V.ref l, V.int (pos' : Int), V.int big', V.int left', V.int z, V.int (cnt + 1)]) := upd_same
          refine ixL (SqL.of b3) 4 rfl ⟨z, rfl, ⟨by decide, by decide⟩, ixL (SqL.of b3) 4 rfl (.inl ⟨z, rfl, by decide, sm (by decide), p1, ?_⟩)⟩
          exact done _ pos' _ _ _ _ _ (set k2) b3 mz.1 mz.2 (Int.emod_nonneg _ (by omega)) (Int.emod_lt_of_pos _ p1)
end
end W22

set_option Elab.async false
set_option linter.all false
set_option maxRecDepth 100000
set_option maxHeartbeats 4000000
/-! L22: one of a list's or a text's items -/
namespace W22
open PySem PySem.Spec PyProof.Rows L2 Lay
open SX (S S_len S_cat S_tl)
open C8 (Cal pe_c pe_gc fnScope_by E0 sl_txt rSlX)
section
variable {P : Program} {w : World} {K : PySem.W.Frag} {mg : Str → Option Value} {base : Heap} {f : Addr} {fd : FuncData}
theorem sc41 : FnScope ["bag", "things"] ["bag", "things"] (defScope (top 45)) := fnScope_by (by decide +kernel)
def spPick : Sp := fun vs H Q _ => ∃ (b : Addr) (v : V), vs = [.ref b, v] ∧ Bag H b ∧ ((∃ (l : Addr) (xs : List V), v = .ref l ∧ H l = some (.lst xs) ∧ l ≠ b ∧ 0 < xs.length ∧ xs.length ≤ 1000 ∧ ∀ H' x, Ex b H H' → x ∈ xs → Q x H') ∨
  ∃ a : List Nat, v = .str (S a) ∧ 0 < a.length ∧ a.length ≤ 1000 ∧ ∀ H' c, Ex b H H' → c ∈ a → Q (.str (S [c])) H')
theorem ok_pick (m : Mg K mg) (c__law_draw : Cal P w K mg base 1 "_law_draw" spDraw []) (F : Fn K "_law_of" 45 f fd) (g : mg "_law_of" = some (.ref f)) : Cal P w K mg base 2 "_law_of" spPick [] := by
  have sc := sc41
  refine calD F g sc (fun _ _ _ _ _ _ us hl => match us, hl with | [_, _], _ => rfl) ?_ fun cdv A outer s H vs Q E hr h => ?_
  · rintro vs H Q E ⟨b, v, rfl, _⟩
    rfl
  · obtain ⟨b, v, rfl, bag, h⟩ := h
    refine ⟨_, (pss_one (ps_ret (pe_ix ix_seq (pv 1) (pe_c c__law_draw hr (by decide) (by rfl) (pa_cons (pv 0) (pa_cons (pe_callB call_len (by rfl) m.len_ boot_len (pa_cons (pv 1) pa_nil)) pa_nil))) (fun _ _ => rfl)))), ?_⟩
    simp only [L2.start, cxOf, tRet, tAndV, tOrV, tNotV, tCB, tCons, tNil, tVar, tC, tOp, tUn, tTest, tB, tIf, tIfS, tSeq, tAsg, tAnd, tOr, tNot, gName, tNext, tCall, tChain, rI, rI0, rEq, rNe, rGcd, rU, tM1, tM0, tSl, tPart, tNoPart, gTup, gCons, gNil, gSub, tTup, tLst, tPar, L2.rI, List.map_cons, List.map_nil, List.length_cons, List.length_nil, List.cons_append, List.nil_append, List.append_nil, List.getElem?_cons_zero, List.getElem?_cons_succ, List.set_cons_zero, List.set_cons_succ, Option.some.injEq, exists_eq_left, exists_eq_left', exists_eq_right, exists_and_left, exists_and_right, List.cons.injEq, and_true, true_and, V.int.injEq, V.str.injEq, V.bl.injEq, V.ref.injEq, List.replicate, Nat.reduceAdd, Nat.reduceSub, reduceCtorEq, false_and, and_false, if_true, if_false, Bool.false_eq_true, Bool.not_true, Bool.not_false, decide_eq_true_eq, exists_false, or_false, false_or, spDraw]
    have szl := sizeLine_eq
    rcases h with ⟨l, xs, rfl, hl, nb, p1, p2, q⟩ | ⟨a, rfl, p1, p2, q⟩
    · refine ⟨_, len_L (SqL.of hl), b, _, ⟨rfl, rfl⟩, bag, by omega, by omega, fun H' d ex h0 hlt => ?_⟩
      obtain ⟨n, rfl⟩ := Int.eq_ofNat_of_zero_le h0
      have hn : n < xs.length := by omega
      exact .inl (ixL (SqL.of (ex.keep _ _ nb hl)) n (List.getElem?_eq_getElem hn) (q H' _ ex (List.getElem_mem hn)))
    · refine ⟨_, len_S (by omega), b, _, ⟨rfl, rfl⟩, bag, by omega, by omega, fun H' d ex h0 hlt => ?_⟩
      obtain ⟨n, rfl⟩ := Int.eq_ofNat_of_zero_le h0
      have hn : n < a.length := by omega
      refine .inr (.inr ⟨_, (n : Int), a[n], rfl, rfl, by rw [S_len]; omega, at_nat (List.getElem?_eq_getElem hn), q H' _ ex (List.getElem_mem hn)⟩)
end
end W22

set_option Elab.async false
set_option linter.all false
set_option maxRecDepth 100000
set_option maxHeartbeats 4000000
/-! M22: a drawn tree -/
namespace W22
open PySem PySem.Spec PyProof.Rows L2 Lay
open SX (S S_len S_cat S_tl)
open C8 (Cal pe_c pe_gc fnScope_by E0 sl_txt rSlX)
theorem cut_to {α : Type} {f : α → V} {xs : List α} {k : Nat} (h : k ≤ xs.length) : cutV (xs.map f) none (some (k : Int)) = (xs.take k).map f := by
  unfold cutV
  rw [List.length_map, HT.sIx_nat, Nat.min_eq_left h]
  show ((xs.map f).drop 0).take (k - 0) = _
  rw [List.drop_zero, Nat.sub_zero, List.map_take]
theorem cut_from {α : Type} {f : α → V} {xs : List α} {k : Nat} (h : k ≤ xs.length) : cutV (xs.map f) (some (k : Int)) none = (xs.drop k).map f := by
  unfold cutV
  rw [List.length_map, HT.sIx_nat, Nat.min_eq_left h]
  show ((xs.map f).drop k).take (xs.length - k) = _
  rw [List.map_drop, List.take_of_length_le (by rw [List.length_drop, List.length_map]; omega)]
theorem bag_new {b p : Addr} {H : Hp} {o : HO} (g : Bag H b) (hp : H p = none) : p ≠ b ∧ Bag (upd H p o) b := by
  obtain ⟨l0, ns, pos, big, mixed, cnt, left, e1, e2, e3⟩ := g
  have np : p ≠ b := fun z => by
    rw [z, e1] at hp
    cases hp
  exact ⟨np, l0, ns, pos, big, mixed, cnt, left, by rw [upd_ne (Ne.symm np)]; exact e1, by rw [upd_ne (ne_of_none e2 hp)]; exact e2, e3⟩
theorem Ex.new {b p : Addr} {H H1 : Hp} {o : HO} (x : Ex b H H1) (hp : H1 p = none) : Ex b H (upd H1 p o) := ⟨fun a u n e => (same_new hp) _ _ (x.keep a u n e), (bag_new x.bag hp).2, fun l r e => by
  obtain ⟨r', e'⟩ := x.list l r e
  exact ⟨r', (same_new hp) _ _ e'⟩⟩
theorem Ex.tr {b : Addr} {H H1 H2 : Hp} (x : Ex b H H1) (y : Ex b H1 H2) : Ex b H H2 := ⟨fun a o n e => y.keep a o n (x.keep a o n e), y.bag, fun l r e => by
  obtain ⟨r', e'⟩ := x.list l r e
  exact y.list l r' e'⟩
section
variable {P : Program} {w : World} {K : PySem.W.Frag} {mg : Str → Option Value} {base : Heap} {f : Addr} {fd : FuncData}
theorem sc53 : FnScope ["bag", "words", "at"] ["bag", "words"] (defScope (top 57)) := fnScope_by (by decide +kernel)
/-- a tree over the words, in their order -/
def spNest (n : Nat) : Sp := fun vs H Q _ => ∃ (b l : Addr) (ws : List P22.Wd), vs = [.ref b, .ref l] ∧ Bag H b ∧ H l = some (wordsV ws) ∧ l ≠ b ∧ 0 < ws.length ∧ ws.length ≤ n ∧ ws.length ≤ 1000 ∧
  ∀ H' v t, Ex b H H' → P22.leaves t = ws → (∀ H'', (∀ a o, a ≠ b → H' a = some o → H'' a = some o) → TrAt H'' t v) → Q v H'
theorem ok_nested_step (m : Mg K mg) (c__law_draw : Cal P w K mg base 1 "_law_draw" spDraw []) (F : Fn K "_law_nested" 57 f fd) (g : mg "_law_nested" = some (.ref f)) (n : Nat) (c__law_nested : Cal P w K mg base (n + 1) "_law_nested" (spNest n) []) : Cal P w K mg base (n + 2) "_law_nested" (spNest (n + 1)) [] := by
  have sc := sc53
  refine calD F g sc (fun _ _ _ _ _ _ us hl => match us, hl with | [_, _], _ => rfl) ?_ fun cdv A outer s H vs Q E hr h => ?_
  · rintro vs H Q E ⟨b, l, ws, rfl, _⟩
    rfl
  · obtain ⟨b, l, ws, rfl, bag, hl, nb, p1, p2, p3, q⟩ := h
    refine ⟨_, (pss_cons (ps_if (pt_cmpR op_eq (pe_callB call_len (by rfl) m.len_ boot_len (pa_cons (pv 1) pa_nil)) pe_int (nomark _))
        (pss_one (ps_ret (pe_ix ix_list (pv 1) pe_int (fun _ _ => rfl))))
        pss_nil)
      (pss_cons (ps_set (i := 2) sc.nd rfl (.inl rfl) (pe_op op_add pe_int (pe_c c__law_draw hr (by omega) (by rfl) (pa_cons (pv 0) (pa_cons (pe_op op_sub (pe_callB call_len (by rfl) m.len_ boot_len (pa_cons (pv 1) pa_nil)) pe_int) pa_nil)))))
      (pss_one (ps_ret (pe_tup (pa_cons (pe_c c__law_nested hr (by omega) (by rfl) (pa_cons (pv 0) (pa_cons (pe_slice sl_list (pv 1) po_none (po_some (pv 2))) pa_nil))) (pa_cons (pe_c c__law_nested hr (by omega) (by rfl) (pa_cons (pv 0) (pa_cons (pe_slice sl_list (pv 1) (po_some (pv 2)) po_none) pa_nil))) pa_nil))))))), ?_⟩
    simp only [L2.start, cxOf, tRet, tAndV, tOrV, tNotV, tCB, tCons, tNil, tVar, tC, tOp, tUn, tTest, tB, tIf, tIfS, tSeq, tAsg, tAnd, tOr, tNot, gName, tNext, tCall, tChain, rI, rI0, rEq, rNe, rGcd, rU, tM1, tM0, tSl, tPart, tNoPart, gTup, gCons, gNil, gSub, tTup, tLst, tPar, L2.rI, List.map_cons, List.map_nil, List.length_cons, List.length_nil, List.cons_append, List.nil_append, List.append_nil, List.getElem?_cons_zero, List.getElem?_cons_succ, List.set_cons_zero, List.set_cons_succ, Option.some.injEq, exists_eq_left, exists_eq_left', exists_eq_right, exists_and_left, exists_and_right, List.cons.injEq, and_true, true_and, V.int.injEq, V.str.injEq, V.bl.injEq, V.ref.injEq, List.replicate, Nat.reduceAdd, Nat.reduceSub, reduceCtorEq, false_and, and_false, if_true, if_false, Bool.false_eq_true, Bool.not_true, Bool.not_false, decide_eq_true_eq, exists_false, or_false, false_or, spDraw, spNest]
    have keep1 : Ex b H H := ⟨fun _ _ _ e => e, bag, fun l r e => ⟨r, e⟩⟩
    have lenW : ((ws.map fun w => V.str (S w))).length = ws.length := List.length_map ..
    have len : LenV K (V.ref l) H ws.length := by rw [← lenW]; exact len_L (SqL.of hl)
    refine ⟨_, len, rfl, ?_⟩
    by_cases one : ws.length = 1
    · rw [if_pos (by omega)]
      obtain ⟨u, rfl⟩ : ∃ u, ws = [u] := List.length_eq_one_iff.mp one
      exact ixL (SqL.of hl) 0 rfl (q H _ (.leaf u) keep1 rfl fun _ _ => rfl)
    · rw [if_neg (by omega)]
      refine ⟨_, len, b, _, ⟨rfl, rfl⟩, bag, by omega, by omega, fun H1 d x1 h0 hlt => ?_⟩
      obtain ⟨k, rfl⟩ := Int.eq_ofNat_of_zero_le h0
      have hk : k + 1 < ws.length := by omega
      have ek : (1 : Int) + (k : Int) = ((k + 1 : Nat) : Int) := by omega
      rw [ek]
      have hl1 := x1.keep _ _ nb hl
      refine ⟨l, _, rfl, SqL.of hl1, fun p hp => ?_⟩
      rw [cut_to (by omega)]
      obtain ⟨np, bag2⟩ := bag_new (o := wordsV (ws.take (k + 1))) x1.bag hp
      have l1 : (ws.take (k + 1)).length = k + 1 := by rw [List.length_take]; omega
      refine ⟨b, p, ⟨rfl, rfl⟩, bag2, _, upd_same, np, by omega, by omega, by omega, fun H2 v1 t1 x2 e1 tr1 => ?_⟩
      have x12 := (x1.new (o := wordsV (ws.take (k + 1))) hp).tr x2
      have hl2 := x12.keep _ _ nb hl
      refine ⟨l, _, rfl, SqL.of hl2, fun p2 hp2 => ?_⟩
      rw [cut_from (by omega)]
      obtain ⟨np2, bag3⟩ := bag_new (o := wordsV (ws.drop (k + 1))) x2.bag hp2
      have l2 : (ws.drop (k + 1)).length = ws.length - (k + 1) := List.length_drop ..
      refine ⟨b, p2, ⟨rfl, rfl⟩, bag3, _, upd_same, np2, by omega, by omega, by omega, fun H3 v2 t2 x3 e2 tr2 => ⟨small (by decide), fun p3 hp3 => ?_⟩⟩
      obtain ⟨np3, _⟩ := bag_new (o := .tup [v1, v2]) x3.bag hp3
      refine q _ (.ref p3) (.node t1 t2) (((x12.new (o := wordsV (ws.drop (k + 1))) hp2).tr x3).new hp3) (by rw [P22.leaves, e1, e2, List.take_append_drop]) fun H4 k4 => ⟨p3, v1, v2, rfl, k4 _ _ np3 upd_same, tr1 H4 fun a o n e => k4 _ _ n ((same_new hp3) _ _ (x3.keep _ _ n ((same_new hp2) _ _ e))), tr2 H4 fun a o n e => k4 _ _ n ((same_new hp3) _ _ e)⟩
theorem ok_nested (m : Mg K mg) (c__law_draw : Cal P w K mg base 1 "_law_draw" spDraw []) (F : Fn K "_law_nested" 57 f fd) (g : mg "_law_nested" = some (.ref f)) : ∀ n, Cal P w K mg base (n + 1) "_law_nested" (spNest n) []
  | 0 => by
    refine calD F g sc53 (fun _ _ _ _ _ _ us hl => match us, hl with | [_, _], _ => rfl) ?_ fun cdv A outer s H vs Q E hr h => ?_
    · rintro vs H Q E ⟨b, l, ws, rfl, _⟩
      rfl
    · obtain ⟨b, l, ws, rfl, _, _, _, p1, p2, _⟩ := h
      omega
  | n + 1 => ok_nested_step m c__law_draw F g n (ok_nested m c__law_draw F g n)
end
end W22

set_option Elab.async false
set_option linter.all false
set_option maxRecDepth 100000
set_option maxHeartbeats 4000000
/-! N22: the law's own words of a text -/
namespace W22
open PySem PySem.Spec PyProof.Rows L2 Lay
open SX (S S_len S_cat S_tl)
open C8 (Cal pe_c pe_gc fnScope_by E0 sl_txt rSlX)
theorem keep_words : ∀ X : List P22.Wd, List.filterMap keepW (List.map V.str (List.map S X)) = (X.filter P22.ne).map fun w => V.str (S w)
  | [] => rfl
  | w :: r => by
    have ih := keep_words r
    rw [List.map_cons, List.map_cons, List.filterMap_cons, List.filter_cons]
    by_cases h : w = []
    · subst h
      rw [if_neg (by simp [P22.ne])]
      exact ih
    · have h2 : S w ≠ "" := fun z => h (SX.S_inj (show S w = S [] from z.trans (by decide +kernel)))
      rw [if_pos (by simp [P22.ne, h]), show keepW (V.str (S w)) = some (V.str (S w)) from if_neg h2, List.map_cons]
      show _ :: _ = _ :: _
      rw [ih]
section
variable {P : Program} {w : World} {K : PySem.W.Frag} {mg : Str → Option Value} {base : Heap} {f : Addr} {fd : FuncData}
theorem sc51 : FnScope ["text", "word"] ["text"] (defScope (top 55)) := fnScope_by (by decide +kernel)
theorem ok_tokens (m : Mg K mg) (F : Fn K "_law_tokens" 55 f fd) (g : mg "_law_tokens" = some (.ref f)) : Cal P w K mg base 1 "_law_tokens" spTW [] := by
  have sc := sc51
  refine calT F g sc (by decide +kernel) (by decide) (fun _ _ _ _ _ _ us hl => match us, hl with | [_], _ => rfl) ?_ fun cdv A outer s H vs Q E hr h => ?_
  · rintro vs H Q E ⟨a, rfl, _⟩
    rfl
  · obtain ⟨a, rfl, hl, q⟩ := h
    refine ⟨_, CwR.psst_one (CwR.pst_ret (pet_lcW (own := [("word", 1)]) (g := gName 1) (.inl rfl) sc.nd (pet_m1 PySem.F.slot_str_split PySem.F.type_str_split mt_split (CwR.pet_replT (CwR.pet_replC (pv 0))) pe_str) (blkOk_by (own := [("word", 1)]) (N := ["text", "word"]) (sc := defScope (top 55)) (by decide +kernel)) (fun _ _ _ _ _ => pg_name (i := 1) sc.nd rfl (.inl rfl))
      (fun _ _ _ _ _ => (pts_one (pt_cmpR op_ne (pv 1) pe_str (nomark _)))) (fun _ _ _ _ _ => pv 1))), ?_⟩
    simp only [L2.start, cxOf, tRet, tAndV, tOrV, tNotV, tCB, tCons, tNil, tVar, tC, tOp, tUn, tTest, tB, tIf, tIfS, tSeq, tAsg, tAnd, tOr, tNot, gName, tNext, tCall, tChain, rI, rI0, rEq, rNe, rGcd, rU, tM1, tM0, tSl, tFmtB, tJs, tPart, tNoPart, gTup, gCons, gNil, gSub, tTup, tLst, tPar, L2.rI, List.map_cons, List.map_nil, List.length_cons, List.length_nil, List.cons_append, List.nil_append, List.append_nil, List.getElem?_cons_zero, List.getElem?_cons_succ, List.set_cons_zero, List.set_cons_succ, Option.some.injEq, exists_eq_left, exists_eq_left', exists_eq_right, exists_and_left, exists_and_right, List.cons.injEq, and_true, true_and, V.int.injEq, V.str.injEq, V.bl.injEq, V.ref.injEq, List.replicate, Nat.reduceAdd, Nat.reduceSub, reduceCtorEq, false_and, and_false, if_true, if_false, Bool.false_eq_true, Bool.not_true, Bool.not_false, decide_eq_true_eq, tLcW, CwR.tReplC]
    have ey : ("(" : Str) = S [40] := by decide +kernel
    have ez : (" ( " : Str) = S [32, 40, 32] := by decide +kernel
    have fy : (")" : Str) = S [41] := by decide +kernel
    have fz : (" ) " : Str) = S [32, 41, 32] := by decide +kernel
    have e32 : (" " : Str) = S [32] := by decide +kernel
    rw [ey, ez, fy, fz, e32]
    rw [repl_S (by decide), repl_S (by decide)]
    have l1 : (StrLaws.replL [40] [32, 40, 32] a).length ≤ 3 * a.length := by rw [P22.repl_sub]; exact sub_len
    have l2 : (StrLaws.replL [41] [32, 41, 32] (StrLaws.replL [40] [32, 40, 32] a)).length ≤ 3 * (StrLaws.replL [40] [32, 40, 32] a).length := by rw [P22.repl_sub 41]; exact sub_len
    have l3 : ∀ a b c : Nat, ([a, b, c] : List Nat).length = 3 := fun _ _ _ => rfl
    have szl := sizeLine_eq
    rw [S_len, S_len, S_len, S_len, l3, l3]
    refine ⟨by omega, by omega, ⟨_, rfl⟩, by rfl, by rw [S_len]; omega, fun p hp => ?_⟩
    rw [SX.split_S (by simp) (by decide)]
    generalize eX : TL.spl [32] 0 [] (StrLaws.replL [41] [32, 41, 32] (StrLaws.replL [40] [32, 40, 32] a)) = X
    have fin : X.filter P22.ne = P22.words a := by rw [← eX]; exact P22.prog_words a
    refine ⟨p, rfl, _, SqL.of upd_same, keepW, fun D acc y hD hy => ?_, fun D hD => ?_⟩
    · obtain ⟨y', hy', rfl⟩ := List.mem_map.mp hy
      refine ⟨rfl, .str y', rfl, rfl, ?_⟩
      show (match (if y' = "" then none else some (V.str y')) with | none => _ | some z => _)
      by_cases h : y' = ""
      · rw [if_pos h]
        simp [h]
      · rw [if_neg h]
        exact ⟨by simp [h], rfl⟩
    · have e := keep_words X
      rw [fin] at e
      exact q _ D ((same_new hp).trans (same_new hD)) ((same_new hp).free hD) (by rw [upd_same, e]; rfl)
end
end W22

set_option Elab.async false
set_option linter.all false
set_option maxRecDepth 100000
set_option maxHeartbeats 4000000
/-! T22: what a made tree holds -/
namespace P22
open Tr
theorem nodes_before : ∀ {t : Tr} {i : Nat} {l r : Tr}, (nodes t)[i]? = some (node l r) → l ∈ (nodes t).take i ∧ r ∈ (nodes t).take i
  | leaf w, i, l, r, h => by
    match i, h with
    | 0, h => cases h
    | i + 1, h => cases h
  | node a b, i, l, r, h => by
    rw [nodes] at h ⊢
    by_cases h1 : i < (nodes a).length
    · rw [List.append_assoc, List.getElem?_append_left h1] at h
      have ih := nodes_before h
      rw [List.append_assoc, List.take_append_of_le_length (by omega)]
      exact ih
    · by_cases h2 : i < (nodes a ++ nodes b).length
      · rw [List.getElem?_append_left h2, List.getElem?_append_right (by omega)] at h
        have ih := nodes_before h
        rw [List.take_append_of_le_length (by omega), List.take_append, List.mem_append, List.mem_append]
        exact ⟨.inr ih.1, .inr ih.2⟩
      · have e : i = (nodes a ++ nodes b).length := by
          have := (List.getElem?_eq_some_iff.mp h).1
          rw [List.length_append (as := nodes a ++ nodes b), List.length_singleton] at this
          omega
        subst e
        rw [List.getElem?_append_right (Nat.le_refl _), Nat.sub_self] at h
        cases h
        rw [List.take_left']
        · exact ⟨List.mem_append_left _ (self_mem _), List.mem_append_right _ (self_mem _)⟩
        · rfl
theorem nodes_last (t : Tr) : (nodes t).getLast? = some t := by
  cases t with
  | leaf w => rfl
  | node l r => rw [nodes, List.getLast?_concat]
theorem nodes_pos (t : Tr) : 0 < (nodes t).length := List.length_pos_iff.mpr fun e => by
  have := nodes_last t
  rw [e] at this
  cases this
theorem nodes_len : ∀ t : Tr, (nodes t).length + 1 = 2 * (leaves t).length
  | leaf w => rfl
  | node l r => by
    have h1 := nodes_len l
    have h2 := nodes_len r
    simp only [nodes, leaves, List.length_append, List.length_singleton]
    omega
theorem toks_len : ∀ t : Tr, (toks t).length + 2 = 3 * (leaves t).length
  | leaf w => rfl
  | node l r => by
    have h1 := toks_len l
    have h2 := toks_len r
    simp only [toks, leaves, List.length_append, List.length_singleton, List.length_cons, List.length_nil]
    omega
theorem leaf_tok : ∀ {t : Tr} {w : Wd}, w ∈ leaves t → w ∈ toks t
  | leaf w, v, h => h
  | node l r, v, h => by
    rcases List.mem_append.mp h with z | z
    · exact List.mem_cons_of_mem _ (List.mem_append_left _ (leaf_tok z))
    · exact List.mem_cons_of_mem _ (List.mem_append_right _ (List.mem_append_left _ (leaf_tok z)))
theorem tok_len : ∀ {t : Tr} {w : Wd}, w ∈ toks t → 0 < (leaves t).length → w.length ≤ (spell t).length
  | leaf w, v, h, _ => by
    rw [List.mem_singleton.mp h]
    exact Nat.le_refl _
  | node l r, v, h, _ => by
    have hs : (spell (node l r)).length = (spell l).length + (spell r).length + 3 := by
      simp only [spell, List.length_cons, List.length_append, List.length_nil]
      omega
    rw [hs]
    rcases List.mem_cons.mp h with rfl | z
    · simp only [List.length_cons, List.length_nil]
      omega
    · rcases List.mem_append.mp z with z | z
      · have := tok_len z leaves_len' 
        omega
      · rcases List.mem_append.mp z with z | z
        · have := tok_len z leaves_len'
          omega
        · rw [List.mem_singleton.mp z]
          simp only [List.length_cons, List.length_nil]
          omega
where leaves_len' {t : Tr} : 0 < (leaves t).length := List.length_pos_iff.mpr (leaves_pos t)
/-- the most that a tree of n names of at most k signs is long -/
theorem spell_len {k : Nat} : ∀ {t : Tr}, (∀ w ∈ leaves t, w.length ≤ k) → (spell t).length + 3 ≤ (k + 3) * (leaves t).length
  | leaf w, h => by
    have := h w (List.mem_singleton.mpr rfl)
    simp only [spell, leaves, List.length_singleton]
    omega
  | node l r, h => by
    have h1 := spell_len (t := l) (k := k) fun w hw => h w (List.mem_append_left _ hw)
    have h2 := spell_len (t := r) (k := k) fun w hw => h w (List.mem_append_right _ hw)
    simp only [spell, leaves, List.length_cons, List.length_append, List.length_nil, Nat.mul_add]
    omega
end P22
namespace W22
open PySem PySem.Spec PyProof.Rows L2 Lay
open SX (S S_len S_cat S_tl)
theorem val_at : ∀ {kvs : List (Key × V)} {i : Nat} {kv : Key × V}, (kvs.map (·.1)).Nodup → kvs[i]? = some kv → valV kvs kv.1 = some kv.2
  | [], i, kv, _, h => by simp at h
  | p :: r, 0, kv, _, h => by
    cases h
    exact valV_pos rfl
  | p :: r, i + 1, kv, nd, h => by
    rw [List.map_cons, List.nodup_cons] at nd
    have h : r[i]? = some kv := h
    rw [valV_neg fun e => nd.1 (List.mem_map.mpr ⟨kv, List.mem_of_getElem? h, e.symm⟩)]
    exact val_at nd.2 h
theorem val_no {kvs : List (Key × V)} {k : Key} (h : k ∉ kvs.map (·.1)) : valV kvs k = none := by
  unfold valV
  rw [Option.map_eq_none_iff, List.find?_eq_none]
  intro kv hkv
  rw [decide_eq_true_eq]
  exact fun e => h (List.mem_map.mpr ⟨kv, hkv, e⟩)
def keyS (t : P22.Tr) : Key := .inr (S (P22.spell t))
theorem keys_nd {T : P22.Tr} (ok : P22.Ok T) (nd : (P22.leaves T).Nodup) : ((P22.nodes T).map keyS).Nodup := by
  have h := P22.keys_nodup ok nd
  rw [List.nodup_iff_pairwise_ne, List.pairwise_map] at h ⊢
  exact h.imp fun ne e => ne (SX.S_inj (Sum.inr.inj e))
def HalfOf (H : Hp) (t : P22.Tr) (v : V) : Prop := HalfAt H (P22.ent t).2 v
/-- the entry of a node -/
theorem HalvesAt.get {H : Hp} {a : Addr} {T n : P22.Tr} (h : HalvesAt H a ((P22.nodes T).map P22.ent)) (ok : P22.Ok T) (nd : (P22.leaves T).Nodup) (hn : n ∈ P22.nodes T) :
    ∃ kvs v, H a = some (.dK kvs) ∧ valV kvs (keyS n) = some v ∧ HalfOf H n v := by
  obtain ⟨kvs, h1, h2, h3⟩ := h
  obtain ⟨i, hi, e⟩ := List.getElem_of_mem hn
  have g1 : ((P22.nodes T).map P22.ent)[i]? = some (P22.ent n) := by rw [List.getElem?_map, List.getElem?_eq_getElem hi, e]; rfl
  have k2 : kvs.map (·.1) = (P22.nodes T).map keyS := by
    rw [h2, List.map_map]
    exact List.map_congr_left fun t _ => by show (Sum.inr (S (P22.ent t).1) : Key) = _; rw [P22.ent_key]; rfl
  have len : kvs.length = (P22.nodes T).length := by
    have := congrArg List.length k2
    simpa using this
  have g2 : kvs[i]? = some (kvs[i]'(by omega)) := List.getElem?_eq_getElem _
  refine ⟨kvs, (kvs[i]'(by omega)).2, h1, ?_, h3 i _ _ g1 g2⟩
  have ek : (kvs[i]'(by omega)).1 = keyS n := by
    have e1 : (kvs.map (·.1))[i]? = some (kvs[i]'(by omega)).1 := by rw [List.getElem?_map, g2]; rfl
    rw [k2, List.getElem?_map, List.getElem?_eq_getElem hi, e] at e1
    exact (Option.some.inj e1).symm
  rw [← ek]
  exact val_at (by rw [k2]; exact keys_nd ok nd) g2
/-- a text that is no node is no key -/
theorem HalvesAt.none {H : Hp} {a : Addr} {T n : P22.Tr} (h : HalvesAt H a ((P22.nodes T).map P22.ent)) (ok : P22.Ok T) (okn : P22.Ok n) (hn : n ∉ P22.nodes T) : ∃ kvs, H a = some (.dK kvs) ∧ valV kvs (keyS n) = none := by
  obtain ⟨kvs, h1, h2, _⟩ := h
  refine ⟨kvs, h1, val_no fun z => hn ?_⟩
  rw [h2, List.map_map] at z
  obtain ⟨t, ht, e⟩ := List.mem_map.mp z
  have e : (Sum.inr (S (P22.ent t).1) : Key) = keyS n := e
  rw [P22.ent_key] at e
  have e2 := SX.S_inj (Sum.inr.inj e)
  exact P22.spell_inj (P22.ok_sub ok ht) okn e2 ▸ ht
abbrev wV (ws : List P22.Wd) : List V := ws.map fun w => V.str (S w)
/-- the dict of the lots of the nodes ns -/
def LotsAt (H : Hp) (a : Addr) (ns : List P22.Tr) : Prop := ∃ kvs : List (Key × V), H a = some (.dK kvs) ∧ kvs.map (·.1) = ns.map keyS ∧ ∀ (i : Nat) n kv, ns[i]? = some n → kvs[i]? = some kv → ∃ t, kv.2 = .ref t ∧ H t = some (.tup (wV (P22.leaves n)))
theorem LotsAt.mono {H H' : Hp} {a : Addr} {ns : List P22.Tr} (h : LotsAt H a ns) (e : ∀ b u, H b = some u → (b = a ∨ ∃ xs, u = .tup xs) → H' b = some u) : LotsAt H' a ns := by
  obtain ⟨kvs, h1, h2, h3⟩ := h
  refine ⟨kvs, e _ _ h1 (.inl rfl), h2, fun i n kv g1 g2 => ?_⟩
  obtain ⟨t, et, ht⟩ := h3 i n kv g1 g2
  exact ⟨t, et, e _ _ ht (.inr ⟨_, rfl⟩)⟩
theorem LotsAt.same {H H' : Hp} {a : Addr} {ns : List P22.Tr} (h : LotsAt H a ns) (e : Same H H') : LotsAt H' a ns := h.mono fun b u g _ => e b u g
theorem LotsAt.len {H : Hp} {a : Addr} {ns : List P22.Tr} (h : LotsAt H a ns) : ∃ kvs, H a = some (.dK kvs) ∧ kvs.length = ns.length := by
  obtain ⟨kvs, h1, h2, _⟩ := h
  refine ⟨kvs, h1, ?_⟩
  have := congrArg List.length h2
  simpa using this
theorem LotsAt.get {H : Hp} {a : Addr} {ns : List P22.Tr} {n : P22.Tr} (h : LotsAt H a ns) (nd : (ns.map keyS).Nodup) (hn : n ∈ ns) : ∃ kvs t, H a = some (.dK kvs) ∧ valV kvs (keyS n) = some (.ref t) ∧ H t = some (.tup (wV (P22.leaves n))) := by
  obtain ⟨kvs, h1, h2, h3⟩ := h
  obtain ⟨i, hi, e⟩ := List.getElem_of_mem hn
  have len : kvs.length = ns.length := by
    have := congrArg List.length h2
    simpa using this
  have g1 : ns[i]? = some n := by rw [List.getElem?_eq_getElem hi, e]
  have g2 : kvs[i]? = some (kvs[i]'(by omega)) := List.getElem?_eq_getElem _
  obtain ⟨t, et, ht⟩ := h3 i _ _ g1 g2
  refine ⟨kvs, t, h1, ?_, ht⟩
  have ek : (kvs[i]'(by omega)).1 = keyS n := by
    have e1 : (kvs.map (·.1))[i]? = some (kvs[i]'(by omega)).1 := by rw [List.getElem?_map, g2]; rfl
    rw [h2, List.getElem?_map, g1] at e1
    exact (Option.some.inj e1).symm
  rw [← ek, val_at (by rw [h2]; exact nd) g2, et]
theorem LotsAt.put {H : Hp} {a t : Addr} {ns : List P22.Tr} {n : P22.Tr} (h : LotsAt H a ns) (fr : keyS n ∉ ns.map keyS) (ht : H t = some (.tup (wV (P22.leaves n)))) :
    ∃ kvs, H a = some (.dK kvs) ∧ kvs.length = ns.length ∧ LotsAt (upd H a (.dK (putK kvs (keyS n) (.ref t)))) a (ns ++ [n]) := by
  obtain ⟨kvs, h1, h2, h3⟩ := h
  have len : kvs.length = ns.length := by
    have := congrArg List.length h2
    simpa using this
  have nw : valV kvs (keyS n) = none := val_no (by rw [h2]; exact fr)
  refine ⟨kvs, h1, len, kvs ++ [(keyS n, .ref t)], by rw [upd_same, putK_new _ nw], by rw [List.map_append, List.map_append, h2]; rfl, ?_⟩
  have keep : ∀ {t xs}, H t = some (.tup xs) → (upd H a (.dK (putK kvs (keyS n) (.ref t)))) t = some (.tup xs) := fun q => by
    rw [upd_ne (ne_of q h1 (fun z => by cases z))]
    exact q
  intro i e' kv g1 g2
  have keep2 : ∀ {s xs}, H s = some (.tup xs) → (upd H a (.dK (putK kvs (keyS n) (.ref t)))) s = some (.tup xs) := fun q => by
    rw [upd_ne (ne_of q h1 (fun z => by cases z))]
    exact q
  by_cases hi : i < ns.length
  · rw [List.getElem?_append_left hi] at g1
    rw [List.getElem?_append_left (by omega)] at g2
    obtain ⟨s, es, hs⟩ := h3 i e' kv g1 g2
    exact ⟨s, es, keep2 hs⟩
  · by_cases hi2 : i = ns.length
    · subst hi2
      rw [List.getElem?_append_right (Nat.le_refl _), Nat.sub_self] at g1
      rw [List.getElem?_append_right (by omega), len, Nat.sub_self] at g2
      cases g1
      cases g2
      exact ⟨t, rfl, keep2 ht⟩
    · rw [List.getElem?_eq_none (by rw [List.length_append, List.length_singleton]; omega)] at g1
      cases g1
/-- the dict of what stands above -/
def abv (kvs : List (Key × V)) : P22.Tr → List (Key × V)
  | .leaf _ => kvs
  | .node l r => putK (putK kvs (keyS l) (.str (S (P22.spell (.node l r))))) (keyS r) (.str (S (P22.spell (.node l r))))
def aboveK (ns : List P22.Tr) : List (Key × V) := ns.foldl abv []
theorem putK_len {kvs : List (Key × V)} {k : Key} {v : V} : (putK kvs k v).length ≤ kvs.length + 1 := by
  unfold putK
  split
  · rw [List.length_map]; omega
  · rw [List.length_append, List.length_singleton]; exact Nat.le_refl _
theorem aboveK_len (ns : List P22.Tr) : (aboveK ns).length ≤ 2 * ns.length := by
  have : ∀ (ns : List P22.Tr) (kvs : List (Key × V)), (ns.foldl abv kvs).length ≤ kvs.length + 2 * ns.length := by
    intro ns
    induction ns with
    | nil => intro kvs; simp
    | cons t r ih =>
      intro kvs
      rw [List.foldl_cons]
      refine Nat.le_trans (ih _) ?_
      have : (abv kvs t).length ≤ kvs.length + 2 := by
        cases t with
        | leaf w => exact Nat.le_add_right _ _
        | node l r => exact Nat.le_trans putK_len (Nat.succ_le_succ putK_len)
      rw [List.length_cons]
      omega
  have h := this ns []
  simpa [aboveK] using h
abbrev spV (t : P22.Tr) : V := .str (S (P22.spell t))
/-- the tree at x -/
def TreeAt (C : Addr) (H : Hp) (x : Addr) (T : P22.Tr) : Prop := ∃ dx lv nd d lo ab : Addr,
  H x = some (.ins C dx [("leaves", .ref lv), ("nodes", .ref nd), ("root", spV T), ("text", spV T), ("_halves", .ref d), ("_lots", .ref lo), ("_above", .ref ab)]) ∧
  H lv = some (.tup (wV (P22.leaves T))) ∧ H nd = some (.tup ((P22.nodes T).map spV)) ∧ HalvesAt H d ((P22.nodes T).map P22.ent) ∧ LotsAt H lo (P22.nodes T) ∧ H ab = some (.dK (aboveK (P22.nodes T)))
theorem TreeAt.same {C : Addr} {H H' : Hp} {x : Addr} {T : P22.Tr} (h : TreeAt C H x T) (e : Same H H') : TreeAt C H' x T := by
  obtain ⟨dx, lv, nd, d, lo, ab, h1, h2, h3, h4, h5, h6⟩ := h
  exact ⟨dx, lv, nd, d, lo, ab, e _ _ h1, e _ _ h2, e _ _ h3, h4.same e, h5.same e, e _ _ h6⟩
end W22

set_option Elab.async false
set_option linter.all false
set_option maxRecDepth 100000
set_option maxHeartbeats 4000000
/-! O22: Tree.__init__ -/
namespace W22
open PySem PySem.Spec PyProof.Rows L2 Lay
open SX (S S_len S_cat S_tl)
open C8 (Cal Mak Met pe_c pe_gc fnScope_by E0)
section
variable {P : Program} {w : World} {K : PySem.W.Frag} {mg : Str → Option Value} {base : Heap} {f : Addr} {fd : FuncData}
abbrev Mt (K : PySem.W.Frag) (m q : Str) (i j : Nat) (f : Addr) (fd : FuncData) : Prop := FunD K m q (defArgs (inClass (top i) j)) (defBody (inClass (top i) j)) (defScope (inClass (top i) j)) [] [] f fd
abbrev cT (K : PySem.W.Frag) : Addr := He.ga K "Tree"
/-- what is known of the class -/
structure Tc (K : PySem.W.Frag) (mg : Str → Option Value) : Prop where
  cls : Cls K (cT K)
  glo : mg "Tree" = some (.ref (cT K))
  fld : ∀ x ∈ fields, NoAttr K (cT K) x
theorem name_len {u : List Nat} (h : nameB u = true) : u.length ≤ 8 := by
  unfold nameB valueB at h
  simp only [Bool.and_eq_true, decide_eq_true_eq] at h
  omega
theorem at_last {α : Type} {xs : List α} {v : α} (h : xs.getLast? = some v) : atI xs (-1) = some v := by
  have lp : 0 < xs.length := List.length_pos_iff.mpr fun e => by
    rw [e] at h
    cases h
  unfold atI ixN
  rw [if_neg (by decide), if_pos (by omega)]
  show xs[((-1 : Int) + (xs.length : Int)).toNat]? = _
  rw [show ((-1 : Int) + (xs.length : Int)).toNat = xs.length - 1 by omega, ← List.getLast?_eq_getElem?]
  exact h
theorem scI : FnScope ["self", "text", "words", "names", "halves", "lots", "above", "node", "pair"] ["self", "text"] (defScope (inClass (top 41) 0)) := fnScope_by (by decide +kernel)
def spInit (C : Addr) : Sp := fun vs H Q _ => ∃ (x dx : Addr) (T : P22.Tr), vs = [.ref x, .str (S (P22.spell T))] ∧ H x = some (.ins C dx []) ∧ P22.Good nameB T ∧ (P22.leaves T).Nodup ∧ (P22.leaves T).length ≤ 24 ∧
  ∀ H', (∀ b u, b ≠ x → H b = some u → H' b = some u) → TreeAt C H' x T → Q .non H'
theorem ok_init (m : Mg K mg) (tc : Tc K mg) (M : Mk K (cT K) f) (c_check_length : Cal P w K mg base 1 "check_length" spLen []) (c_tree_words : Cal P w K mg base 2 "tree_words" spTW []) (c_tree_names : Cal P w K mg base 3 "tree_names" spNames []) (c_tree_halves : Cal P w K mg base 1 "tree_halves" spTH [])
    (F : Mt K "__init__" "Tree.__init__" 41 0 f fd) : Mak P w K mg base 4 "Tree" (cT K) (spInit (cT K)) [] := by
  have sc := scI
  refine makD M tc.glo F sc (fun _ _ _ _ _ _ us hl => match us, hl with | [_, _], _ => rfl) ?_ fun cdv A outer s H vs Q E hr h => ?_
  · rintro vs H Q E ⟨x, dx, T, rfl, _⟩
    rfl
  · obtain ⟨x, dx, T, rfl, hx, good, nd, few, q⟩ := h
    have room1 : (A.deeper (envOfC "Tree.__init__" (defScope (inClass (top 41) 0)) s.heap.objs.size f cdv)).units + 1 < cLine := by have := hr.un; omega
    refine ⟨_, (pss_cons (ps_expr (pe_c c_check_length hr (by decide) (by rfl) (pa_cons (pv 1) pa_nil)))
      (pss_cons (ps_set (i := 2) sc.nd rfl (.inl rfl) (pe_c c_tree_words hr (by decide) (by rfl) (pa_cons (pv 1) pa_nil)))
      (pss_cons (ps_set (i := 3) sc.nd rfl (.inl rfl) (pe_c c_tree_names hr (by decide) (by rfl) (pa_cons (pv 2) pa_nil)))
      (pss_cons (ps_if (pt_cmpR op_isN (pv 3) pe_non (nomark _))
        (pss_one ps_never)
        pss_nil)
      (pss_cons (ps_if (pt_cmpR op_gt (pe_callB call_len (by rfl) m.len_ boot_len (pa_cons (pv 3) pa_nil)) (pe_gc (v := .int 24) (by rfl) m.mostLeaves) (nomark _))
        (pss_one ps_never)
        pss_nil)
      (pss_cons (ps_set (i := 4) sc.nd rfl (.inl rfl) (pe_c c_tree_halves hr (by decide) (by rfl) (pa_cons (pv 2) pa_nil)))
      (pss_cons (ps_set (i := 5) sc.nd rfl (.inl rfl) pe_dnewK)
      (pss_cons (ps_set (i := 6) sc.nd rfl (.inl rfl) pe_dnewK)
      (pss_cons (ps_lock (ps_for pown rfl (pi_keys (pv 4)) (pg_name (i := 7) sc.nd rfl (.inl rfl))
 (pss_cons (ps_set (i := 8) sc.nd rfl (.inl rfl) (pe_dget room1 (pv 4) (pv 7) (fun _ _ => rfl)))
        (pss_one (ps_if (pt_cmpR op_isN (pv 8) pe_non (nomark _))
          (pss_one (ps_asg (pe_tup (pa_cons (pv 7) pa_nil)) (pg_sub (pv 5) (pv 7) (set_dict room1))))
          (pss_cons (ps_asg (pe_op op_catA (pe_dget room1 (pv 5) (pe_ix ix_tup (pv 8) pe_int (fun _ _ => rfl)) (fun _ _ => rfl)) (pe_dget room1 (pv 5) (pe_ix ix_tup (pv 8) pe_int (fun _ _ => rfl)) (fun _ _ => rfl))) (pg_sub (pv 5) (pv 7) (set_dict room1)))
          (pss_cons (ps_asg (pv 7) (pg_sub (pv 6) (pe_ix ix_tup (pv 8) pe_int (fun _ _ => rfl)) (set_dict room1)))
          (pss_one (ps_asg (pv 7) (pg_sub (pv 6) (pe_ix ix_tup (pv 8) pe_int (fun _ _ => rfl)) (set_dict room1)))))))))))
      (pss_cons (ps_fld (pv 0) (pe_callTy call_tuple_of (by rfl) m.tuple_ boot_tuple (pa_cons (pv 3) pa_nil)) (by rfl))
      (pss_cons (ps_fld (pv 0) (pe_callTy call_tuple_of (by rfl) m.tuple_ boot_tuple (pa_cons (pe_lock (pe_lc (own := [("node", 7)]) (g := gName 7) (by rfl) sc.nd (pi_keys (pv 4)) (blkOk_by (own := [("node", 7)]) (N := ["self", "text", "words", "names", "halves", "lots", "above", "node", "pair"]) (sc := defScope (inClass (top 41) 0)) (by decide +kernel)) (fun _ _ _ _ _ => pg_name (i := 7) sc.nd rfl (.inl rfl)) (fun _ _ _ _ _ => pts_nil) (fun _ _ _ _ _ => pv 7))) pa_nil)) (by rfl))
      (pss_cons (ps_fld (pv 0) (pe_ix ix_tup (pe_fld (pv 0) rfl) (pe_un un_neg pe_int) (fun _ _ => rfl)) (by rfl))
      (pss_cons (ps_fld (pv 0) (pe_fld (pv 0) rfl) (by rfl))
      (pss_cons (ps_fld (pv 0) (pv 4) (by rfl))
      (pss_cons (ps_fld (pv 0) (pv 5) (by rfl))
      (pss_one (ps_fld (pv 0) (pv 6) (by rfl)))))))))))))))))), ?_⟩
    have szl := sizeLine_eq
    have w8 : ∀ u ∈ P22.leaves T, u.length ≤ 8 := fun u hu => name_len (good u hu).1
    have sl := P22.spell_len w8
    have sl2 : (P22.spell T).length ≤ 300 := by omega
    have tl := P22.toks_len T
    have lp : 0 < (P22.leaves T).length := List.length_pos_iff.mpr (P22.leaves_pos T)
    have ok := good.ok
    simp only [L2.start, cxOf, tRet, tAndV, tOrV, tNotV, tCB, tCons, tNil, tVar, tC, tOp, tUn, tTest, tB, tSeq, tAsg, tNot, gName, tNext, tCall, tChain, rI, rI0, rEq, rNe, rGcd, rU, tM1, tM0, tSl, tPart, tNoPart, gTup, gCons, gNil, gSub, tTup, tLst, tPar, L2.rI, List.map_cons, List.map_nil, List.length_cons, List.length_nil, List.cons_append, List.nil_append, List.append_nil, List.getElem?_cons_zero, List.getElem?_cons_succ, List.set_cons_zero, List.set_cons_succ, Option.some.injEq, exists_eq_left, exists_eq_left', exists_eq_right, exists_and_left, exists_and_right, List.cons.injEq, and_true, true_and, V.int.injEq, V.str.injEq, V.bl.injEq, V.ref.injEq, List.replicate, Nat.reduceAdd, Nat.reduceSub, reduceCtorEq, false_and, and_false, if_true, if_false, Bool.false_eq_true, Bool.not_true, Bool.not_false, decide_eq_true_eq, exists_false, or_false, false_or, tDrop]
    refine ⟨_, rfl, by omega, _, rfl, by omega, fun H1 ws s1 n1 hw => ?_⟩
    rw [P22.words_spell ok] at hw
    refine ⟨ws, _, rfl, hw, by omega, fun u hu => Nat.le_trans (P22.tok_len hu lp) (by omega), ?_⟩
    rw [P22.names_toks good nd]
    refine fun H2 nm s2 n2 hn => ?_
    simp only [L2.start, cxOf, tRet, tAndV, tOrV, tNotV, tCB, tCons, tNil, tVar, tC, tOp, tUn, tTest, tB, tIf, tIfS, tSeq, tAsg, tAnd, tOr, tNot, gName, tNext, tCall, tChain, rI, rI0, rEq, rNe, rGcd, rU, tM1, tM0, tSl, tPart, tNoPart, gTup, gCons, gNil, gSub, tTup, tLst, tPar, L2.rI, List.map_cons, List.map_nil, List.length_cons, List.length_nil, List.cons_append, List.nil_append, List.append_nil, List.getElem?_cons_zero, List.getElem?_cons_succ, List.set_cons_zero, List.set_cons_succ, Option.some.injEq, exists_eq_left, exists_eq_left', exists_eq_right, exists_and_left, exists_and_right, List.cons.injEq, and_true, true_and, V.int.injEq, V.str.injEq, V.bl.injEq, V.ref.injEq, List.replicate, Nat.reduceAdd, Nat.reduceSub, reduceCtorEq, false_and, and_false, if_true, if_false, Bool.false_eq_true, Bool.not_true, Bool.not_false, decide_eq_true_eq, exists_false, or_false, false_or]
    refine ⟨_, len_L (SqL.of hn), ?_⟩
    rw [List.length_map, if_neg (by omega)]
    simp only [L2.start, cxOf, tRet, tAndV, tOrV, tNotV, tCB, tCons, tNil, tVar, tC, tOp, tUn, tTest, tB, tIf, tIfS, tSeq, tAsg, tAnd, tOr, tNot, gName, tNext, tCall, tChain, rI, rI0, rEq, rNe, rGcd, rU, tM1, tM0, tSl, tPart, tNoPart, gTup, gCons, gNil, gSub, tTup, tLst, tPar, L2.rI, List.map_cons, List.map_nil, List.length_cons, List.length_nil, List.cons_append, List.nil_append, List.append_nil, List.getElem?_cons_zero, List.getElem?_cons_succ, List.set_cons_zero, List.set_cons_succ, Option.some.injEq, exists_eq_left, exists_eq_left', exists_eq_right, exists_and_left, exists_and_right, List.cons.injEq, and_true, true_and, V.int.injEq, V.str.injEq, V.bl.injEq, V.ref.injEq, List.replicate, Nat.reduceAdd, Nat.reduceSub, reduceCtorEq, false_and, and_false, if_true, if_false, Bool.false_eq_true, Bool.not_true, Bool.not_false, decide_eq_true_eq, exists_false, or_false, false_or, tDNewK]
    refine ⟨ws, T, rfl, s2 _ _ hw, ok, nd, by omega, by omega, fun H3 d s3 n3 hd lo hlo ab hab => ?_⟩
    obtain ⟨kvs, hk1, hk2, hk3⟩ := id hd
    have nl := P22.nodes_len T
    have lk : kvs.length = (P22.nodes T).length := by
      have := congrArg List.length hk2
      simpa using this
    have kn : kvs.map (·.1) = (P22.nodes T).map keyS := by
      rw [hk2, List.map_map]
      exact List.map_congr_left fun t _ => by show (Sum.inr (S (P22.ent t).1) : Key) = _; rw [P22.ent_key]; rfl
    have knd : (kvs.map (·.1)).Nodup := by rw [kn]; exact keys_nd ok nd
    have nla : lo ≠ ab := fun z => by rw [← z, upd_same] at hab; cases hab
    have hab3 : H3 ab = none := by rw [upd_ne (Ne.symm nla)] at hab; exact hab
    have ndl : d ≠ lo := ne_of_none hk1 hlo
    have nda : d ≠ ab := ne_of_none hk1 hab3
    refine ⟨d, .dK kvs, by rw [upd_ne nda, upd_ne ndl]; exact hk1, trivial, fun od => ?_⟩
    refine for_keys_at (d := d) (o := od) (kvs := kvs) (fun R k => ⟨_, rfl, k⟩) upd_same ⟨fun i σ' H' => ∃ (y7 y8 : Option V), σ' = [some (.ref x), some (.str (S (P22.spell T))), some (.ref ws), some (.ref nm), some (.ref d), some (.ref lo), some (.ref ab), y7, y8] ∧
      (∀ b u, b ≠ d → H3 b = some u → H' b = some u) ∧ H' d = some (.frz od (.dK kvs)) ∧ LotsAt H' lo ((P22.nodes T).take i) ∧ H' ab = some (.dK (aboveK ((P22.nodes T).take i))), ?_, ?_, ?_, ?_⟩
    · refine ⟨none, none, rfl, fun b u nb hb => ?_, upd_same, ⟨[], ?_, rfl, fun i n kv z _ => by simp at z⟩, ?_⟩
      · rw [upd_ne nb, upd_ne (ne_of_none hb hab3), upd_ne (ne_of_none hb hlo)]
        exact hb
      · rw [upd_ne (Ne.symm ndl), upd_ne nla, upd_same]
      · rw [upd_ne (Ne.symm nda), upd_same]
        rfl
    · rintro i σ' H' _ ⟨y7, y8, rfl, _, hf, _⟩
      exact hf
    · rintro i k v σ' H' hkv ⟨y7, y8, rfl, keep, hf, hl, ha⟩
      obtain ⟨hi, _⟩ := List.getElem?_eq_some_iff.mp hkv
      have hi2 : i < (P22.nodes T).length := by omega
      generalize en : (P22.nodes T)[i] = n
      have hn2 : (P22.nodes T)[i]? = some n := by rw [List.getElem?_eq_getElem hi2, en]
      have ek : k = keyS n := by
        have e1 : (kvs.map (·.1))[i]? = some k := by rw [List.getElem?_map, hkv]; rfl
        rw [kn, List.getElem?_map, hn2] at e1
        exact (Option.some.inj e1).symm
      subst ek
      have hv : HalfOf H3 n v := hk3 i _ _ (by rw [List.getElem?_map, hn2]; rfl) hkv
      have vv : valV kvs (keyS n) = some v := val_at knd hkv
      have tk : (P22.nodes T).take (i + 1) = (P22.nodes T).take i ++ [n] := by rw [List.take_succ_eq_append_getElem hi2, en]
      have lt : ((P22.nodes T).take i).length = i := by rw [List.length_take]; omega
      have fr : keyS n ∉ ((P22.nodes T).take i).map keyS := by
        have h := keys_nd ok nd
        rw [← List.take_append_drop (i + 1) (P22.nodes T), tk, List.append_assoc, List.map_append, List.nodup_append] at h
        exact fun z => h.2.2 _ z _ (by simp) rfl
      have ndt : (((P22.nodes T).take i).map keyS).Nodup := by
        have h := keys_nd ok nd
        rw [← List.take_append_drop i (P22.nodes T), List.map_append, List.nodup_append] at h
        exact h.1
      have abs : aboveK ((P22.nodes T).take (i + 1)) = abv (aboveK ((P22.nodes T).take i)) n := by
        rw [tk]
        unfold aboveK
        rw [List.foldl_append]
        rfl
      have abl := aboveK_len ((P22.nodes T).take i)
      simp only [L2.start, cxOf, tRet, tAndV, tOrV, tNotV, tCB, tCons, tNil, tVar, tC, tOp, tUn, tTest, tB, tIf, tIfS, tSeq, tAsg, tAnd, tOr, tNot, gName, tNext, tCall, tChain, rI, rI0, rEq, rNe, rGcd, rU, tM1, tM0, tSl, tPart, tNoPart, gTup, gCons, gNil, gSub, tTup, tLst, tPar, L2.rI, List.map_cons, List.map_nil, List.length_cons, List.length_nil, List.cons_append, List.nil_append, List.append_nil, List.getElem?_cons_zero, List.getElem?_cons_succ, List.set_cons_zero, List.set_cons_succ, Option.some.injEq, exists_eq_left, exists_eq_left', exists_eq_right, exists_and_left, exists_and_right, List.cons.injEq, and_true, true_and, V.int.injEq, V.str.injEq, V.bl.injEq, V.ref.injEq, List.replicate, Nat.reduceAdd, Nat.reduceSub, reduceCtorEq, false_and, and_false, if_true, if_false, Bool.false_eq_true, Bool.not_true, Bool.not_false, decide_eq_true_eq, exists_false, or_false, false_or, tDrop, tDGet, rSetD]
      have ndl : d ≠ lo := ne_of_none hk1 hlo
      refine ⟨v, .inl ⟨kvs, _, .inr ⟨od, hf⟩, rfl, vv.symm⟩, ?_⟩
      cases n with
      | leaf w =>
        obtain rfl : v = .non := hv
        rw [if_pos rfl]
        refine ⟨small (by decide), fun t ht => ?_⟩
        obtain ⟨kl, hkl, lkl, hnew⟩ := (hl.mono (H' := upd H' t (.tup [kV (keyS (.leaf w))])) fun b u hb _ => same_new ht b u hb).put fr (t := t) upd_same
        refine ⟨_, DPut.k (k := keyS (.leaf w)) hkl (by omega), ⟨_, rfl⟩, fun b u nb hb => ?_, ?_, by rw [tk]; exact hnew, ?_⟩
        · rw [upd_ne (ne_of_none hb hlo), upd_ne (ne_of_none (keep b u nb hb) ht)]
          exact keep b u nb hb
        · rw [upd_ne ndl, upd_ne (ne_of_none hf ht)]
          exact hf
        · rw [upd_ne (Ne.symm nla), upd_ne (ne_of_none ha ht), abs]
          exact ha
      | node l r =>
        obtain ⟨t, rfl, ht⟩ := hv
        rw [if_neg (by simp)]
        have ntd : t ≠ d := ne_of ht hk1 fun z => by cases z
        have ht1 : H' t = some (.tup [.str (S (P22.spell l)), .str (S (P22.spell r))]) := keep t _ ntd ht
        obtain ⟨ml, mr⟩ := P22.nodes_before hn2
        obtain ⟨kl, tl, hkl, vl, htl⟩ := hl.get ndt ml
        obtain ⟨kl2, tr, hkl2, vr, htr⟩ := hl.get ndt mr
        obtain rfl : kl = kl2 := by
          rw [hkl] at hkl2
          cases hkl2
          rfl
        have few2 : (P22.leaves l).length + (P22.leaves r).length ≤ 24 := by
          have := P22.sub_len (List.mem_of_getElem? hn2)
          rw [P22.leaves, List.length_append] at this
          omega
        refine ixT ht1 0 rfl ⟨.ref tl, vl ▸ DGet.k (k := keyS l) hkl, ixT ht1 1 rfl ⟨.ref tr, vr ▸ DGet.k (k := keyS r) hkl, tl, tr, _, _, rfl, rfl, sqT_of htl, sqT_of htr, by rw [List.length_map, List.length_map]; omega,
          fun e => absurd (List.map_eq_nil_iff.mp e) (P22.leaves_pos l), fun _ e => absurd (List.map_eq_nil_iff.mp e) (P22.leaves_pos r), fun _ _ p hp => ?_⟩⟩
        have ew : wV (P22.leaves l) ++ wV (P22.leaves r) = wV (P22.leaves (.node l r)) := List.map_append.symm
        rw [ew]
        obtain ⟨kl', hkl', lkl, hnew⟩ := (hl.mono (H' := upd H' p (.tup (wV (P22.leaves (.node l r))))) fun b u hb _ => same_new hp b u hb).put fr (t := p) upd_same
        refine ⟨_, DPut.k (k := keyS (.node l r)) hkl' (by omega), ?_⟩
        generalize eH : upd (upd H' p (.tup (wV (P22.leaves (.node l r))))) lo (.dK (putK kl' (keyS (.node l r)) (.ref p))) = H6 at hnew ⊢
        have k6 : ∀ b u, b ≠ lo → H' b = some u → H6 b = some u := fun b u nb hb => by
          rw [← eH, upd_ne nb, upd_ne (ne_of_none hb hp)]
          exact hb
        have ht6 := k6 t _ (ne_of_none ht hlo) ht1
        have ha6 := k6 ab _ (Ne.symm nla) ha
        have nta : t ≠ ab := ne_of_none ht hab3
        refine ixT ht6 0 rfl ⟨_, DPut.k (k := keyS l) ha6 (by omega), ?_⟩
        have hp1 := (putK_len (kvs := aboveK ((P22.nodes T).take i)) (k := keyS l) (v := kV (keyS (.node l r))))
        refine ixT (by rw [upd_ne nta]; exact ht6) 1 rfl ⟨_, DPut.k (k := keyS r) upd_same (by omega), ⟨_, rfl⟩, fun b u nb hb => ?_, ?_, ?_, ?_⟩
        · rw [upd_upd, upd_ne (ne_of_none hb hab3)]
          exact k6 b u (ne_of_none hb hlo) (keep b u nb hb)
        · rw [upd_upd, upd_ne nda]
          exact k6 d _ ndl hf
        · rw [tk, upd_upd]
          exact hnew.mono fun b u hb c => by
            rw [upd_ne (fun z : b = ab => ?_)]
            · exact hb
            · rcases c with rfl | ⟨xs, rfl⟩
              · exact nla z
              · rw [z, ha6] at hb
                cases hb
        · rw [upd_upd, upd_same, abs]
          rfl
    · rintro σ' H' ⟨y7, y8, rfl, keep, hf, hl, ha⟩
      have lkv : kvs.length = (P22.nodes T).length := lk
      rw [lkv, List.take_length] at hl ha
      refine ⟨hf, ?_⟩
      have s7 : Same H (upd H' d (.dK kvs)) := fun b u hb => by
        have h2 : H2 b = some u := s2 _ _ (s1 _ _ hb)
        have nb : b ≠ d := ne_of_none h2 n3
        rw [upd_ne nb]
        exact keep b u nb (s3 _ _ h2)
      have nmd : nm ≠ d := ne_of_none hn n3
      have n7 : (upd H' d (.dK kvs)) nm = some (wordsV (P22.leaves T)) := by
        rw [upd_ne nmd]
        exact keep nm _ nmd (s3 _ _ hn)
      have d7 : HalvesAt (upd H' d (.dK kvs)) d ((P22.nodes T).map P22.ent) := ⟨kvs, upd_same, hk2, fun i e' kv g1 g2 => (hk3 i e' kv g1 g2).mono fun t l r z => by
        have ntd : t ≠ d := ne_of z hk1 fun z => by cases z
        rw [upd_ne ntd]
        exact keep t _ ntd z⟩
      have l7 : LotsAt (upd H' d (.dK kvs)) lo (P22.nodes T) := hl.mono fun b u hb c => by
        rw [upd_ne (fun z : b = d => ?_)]
        · exact hb
        · rw [z, hf] at hb
          cases hb
          rcases c with c | ⟨xs, c⟩
          · exact ndl (z.symm.trans c)
          · cases c
      have a7 : (upd H' d (.dK kvs)) ab = some (.dK (aboveK (P22.nodes T))) := by
        rw [upd_ne (Ne.symm nda)]
        exact ha
      have hd7 : (upd H' d (.dK kvs)) d = some (.dK kvs) := upd_same
      generalize upd H' d (.dK kvs) = H7 at s7 n7 d7 l7 a7 hd7 ⊢
      have x7 := s7 _ _ hx
      simp only [L2.start, cxOf, tRet, tAndV, tOrV, tNotV, tCB, tCons, tNil, tVar, tC, tOp, tUn, tTest, tB, tIf, tIfS, tSeq, tAsg, tAnd, tOr, tNot, gName, tNext, tCall, tChain, rI, rI0, rEq, rNe, rGcd, rU, tM1, tM0, tSl, tPart, tNoPart, gTup, gCons, gNil, gSub, tTup, tLst, tPar, L2.rI, List.map_cons, List.map_nil, List.length_cons, List.length_nil, List.cons_append, List.nil_append, List.append_nil, List.getElem?_cons_zero, List.getElem?_cons_succ, List.set_cons_zero, List.set_cons_succ, Option.some.injEq, exists_eq_left, exists_eq_left', exists_eq_right, exists_and_left, exists_and_right, List.cons.injEq, and_true, true_and, V.int.injEq, V.str.injEq, V.bl.injEq, V.ref.injEq, List.replicate, Nat.reduceAdd, Nat.reduceSub, reduceCtorEq, false_and, and_false, if_true, if_false, Bool.false_eq_true, Bool.not_true, Bool.not_false, decide_eq_true_eq, exists_false, or_false, false_or, sFld]
      have nx : ∀ {l : Addr}, H7 l = none → x ≠ l := fun n => ne_of_none x7 n
      have fld : ∀ y ∈ fields, NoAttr K (cT K) y := tc.fld
      have p0 : ∀ v : V, putF "leaves" v [] = ([("leaves", v)] : List (Str × V)) := fun _ => rfl
      refine ⟨_, .inl ⟨SqL.of n7, fun lv hlv => ⟨_, _, _, by rw [upd_ne (nx hlv)]; exact x7, tc.cls, fld _ (by decide), by decide, ?_⟩⟩⟩
      rw [p0]
      have nvx : lv ≠ x := Ne.symm (nx hlv)
      generalize e8 : upd (upd H7 lv (.tup (List.map (fun w => V.str (S w)) (P22.leaves T)))) x (.ins (cT K) dx [("leaves", .ref lv)]) = H8
      have k8 : ∀ b u, b ≠ x → H7 b = some u → H8 b = some u := fun b u nb hb => by
        rw [← e8, upd_ne nb, upd_ne (ne_of_none hb hlv)]
        exact hb
      have x8 : H8 x = some (.ins (cT K) dx [("leaves", .ref lv)]) := by rw [← e8, upd_same]
      have v8 : H8 lv = some (.tup (wV (P22.leaves T))) := by
        rw [← e8, upd_ne nvx, upd_same]
      have ndx : d ≠ x := ne_of hd7 x7 fun z => by cases z
      have d8 := k8 d _ ndx hd7
      refine ⟨d, .dK kvs, d8, trivial, fun od2 => ?_⟩
      refine lc_keys (d := d) (o := od2) (kvs := kvs) (fun R k => ⟨_, rfl, k⟩) upd_same (by omega) (fun _ => rfl) (fun _ => rfl) fun D hD => ?_
      have ndD : d ≠ D := fun z => by rw [← z, upd_same] at hD; cases hD
      have hD8 : H8 D = none := by
        rw [upd_ne (Ne.symm ndD)] at hD
        exact hD
      have kk : kvs.map (fun kv => kV kv.1) = (P22.nodes T).map spV := by
        rw [show (fun kv : Key × V => kV kv.1) = kV ∘ (fun kv : Key × V => kv.1) from rfl, ← List.map_map, kn, List.map_map]
        rfl
      generalize e9 : upd (upd (upd H8 d (.frz od2 (.dK kvs))) D (.lst (List.map (fun kv => kV kv.1) kvs))) d (.dK kvs) = H9
      have k9 : ∀ b u, H8 b = some u → H9 b = some u := fun b u hb => by
        rw [← e9]
        by_cases z : b = d
        · rw [z, upd_same]
          rw [z, d8] at hb
          exact hb
        · rw [upd_ne z, upd_ne (ne_of_none hb hD8), upd_ne z]
          exact hb
      have D9 : H9 D = some (.lst ((P22.nodes T).map spV)) := by
        rw [← e9, upd_ne (Ne.symm ndD), upd_same, kk]
      have x9 := k9 _ _ x8
      have p1 : ∀ a v : V, putF "nodes" v ([("leaves", a)] : List (Str × V)) = ([("leaves", a), ("nodes", v)] : List (Str × V)) := fun _ _ => rfl
      refine ⟨by rw [upd_ne ndD, upd_same], D, rfl, _, .inl ⟨SqL.of D9, fun nn hnn => ⟨_, _, _, by rw [upd_ne (ne_of_none x9 hnn)]; exact x9, tc.cls, fld _ (by decide), by simp, ?_⟩⟩⟩
      rw [p1]
      have nnx : nn ≠ x := Ne.symm (ne_of_none x9 hnn)
      generalize e10 : upd (upd H9 nn (.tup ((P22.nodes T).map spV))) x (.ins (cT K) dx [("leaves", .ref lv), ("nodes", .ref nn)]) = H10
      have k10 : ∀ b u, b ≠ x → H9 b = some u → H10 b = some u := fun b u nb hb => by
        rw [← e10, upd_ne nb, upd_ne (ne_of_none hb hnn)]
        exact hb
      have x10 : H10 x = some (.ins (cT K) dx [("leaves", .ref lv), ("nodes", .ref nn)]) := by rw [← e10, upd_same]
      have t10 : H10 nn = some (.tup ((P22.nodes T).map spV)) := by rw [← e10, upd_ne nnx, upd_same]
      have last : atI ((P22.nodes T).map spV) (-1) = some (spV T) := at_last (by rw [List.getLast?_map, P22.nodes_last]; rfl)
      refine ⟨_, rfl, x, _, _, _, _, rfl, x10, tc.cls, fld _ (by decide), rfl, nn, _, _, _, rfl, rfl, sqT_of t10, last, ?_⟩
      refine ⟨_, _, _, x10, tc.cls, fld _ (by decide), by simp, _, rfl, x, _, _, _, _, rfl, upd_same, tc.cls, fld _ (by decide), rfl, _, _, _, upd_same, tc.cls, fld _ (by decide), by exact (show (3 : Nat) < 1000 by decide), _, _, _, upd_same, tc.cls, fld _ (by decide), by exact (show (4 : Nat) < 1000 by decide), _, _, _, upd_same, tc.cls, fld _ (by decide), by exact (show (5 : Nat) < 1000 by decide),
        _, _, _, upd_same, tc.cls, fld _ (by decide), by exact (show (6 : Nat) < 1000 by decide), ?_⟩
      rw [upd_upd, upd_upd, upd_upd, upd_upd]
      have nox : ∀ {b : Addr} {u : HO}, H7 b = some u → (∀ dx' fs, u ≠ .ins (cT K) dx' fs) → b ≠ x := fun hb hu z => by
        rw [z, x7] at hb
        cases hb
        exact hu _ _ rfl
      have kf : ∀ {w : HO} (b u), b ≠ x → H7 b = some u → upd H10 x w b = some u := fun b u nb hb => by
        rw [upd_ne nb]
        exact k10 _ _ nb (k9 _ _ (k8 _ _ nb hb))
      refine q _ (fun b u nb hb => kf b u nb (s7 _ _ hb)) ⟨dx, lv, nn, d, lo, ab, ?_, ?_, ?_, ?_, ?_, ?_⟩
      · rw [upd_same]
        rfl
      · rw [upd_ne nvx]
        exact k10 _ _ nvx (k9 _ _ v8)
      · rw [upd_ne nnx]
        exact t10
      · obtain ⟨kv', h1, h2, h3⟩ := d7
        exact ⟨kv', kf _ _ ndx h1, h2, fun i e' kv g1 g2 => (h3 i e' kv g1 g2).mono fun t l r z => kf _ _ (nox z fun _ _ e => by cases e) z⟩
      · exact l7.mono fun b u hb c => kf _ _ (nox hb fun _ _ e => by
          subst e
          rcases c with rfl | ⟨xs, c⟩
          · obtain ⟨kl, hkl, _⟩ := l7
            rw [hkl] at hb
            cases hb
          · cases c) hb
      · exact kf _ _ (nox a7 fun _ _ e => by cases e) a7
end
end W22

set_option Elab.async false
set_option linter.all false
set_option maxRecDepth 100000
set_option maxHeartbeats 4000000
/-! U22: the own exceptions; Tree.halves -/
namespace W22
open PySem PySem.Spec PyProof.Rows L2 Lay
open SX (S S_len S_cat S_tl)
open C8 (Cal Mak Met pe_c pe_gc fnScope_by E0)
/-- what a class of own errors is, beside the others -/
structure Rel (K : PySem.W.Frag) (mg : Str → Option Value) (C : Addr) (x : Str) (base : String) : Prop where
  xf : XfC K C
  exc : ExcC K C
  gB : mg x = some (.ref C)
  own : ∀ y ∈ excs, ∃ D, mg y = some (.ref D) ∧ PySem.W.exmOne K (.ref C) (.ref D) = some (decide (y = x)) ∧ PySem.W.kitOne K (.ref C) (.ref D) = some (decide (y = x))
  blt : ∀ y ∈ (["ValueError", "LookupError", "RuntimeError"] : List String), mg (Str.ofString y) = none ∧ PySem.W.kitOne K (.ref C) (.type y) = some (decide (y = base))
structure Bad (K : PySem.W.Frag) (mg : Str → Option Value) (CB fI : Addr) (fdI : FuncData) : Prop extends Rel K mg CB "BadTree" "ValueError" where
  oex : OexC K CB
  init : PySem.W.findIn K (.ref CB) "__init__" = some (some (.ref fI))
  initT : PySem.W.typeIn K (.ref fI) = some (.type "function")
  F : Mt K "__init__" "BadTree.__init__" 2 0 fI fdI
  noF : PySem.W.findIn K (.ref CB) "why" = some none
abbrev leTail : List Value := [.type "LookupError", .type "Exception", .type "BaseException", .type "object"]
structure NoS (K : PySem.W.Frag) (mg : Str → Option Value) (CN fI : Addr) (fdI : FuncData) : Prop extends Rel K mg CN "NoSuch" "LookupError" where
  oex : OexX K CN "LookupError" "LookupError.__new__" "LookupError.__init__" leTail
  init : PySem.W.findIn K (.ref CN) "__init__" = some (some (.ref fI))
  initT : PySem.W.typeIn K (.ref fI) = some (.type "function")
  F : Mt K "__init__" "NoSuch.__init__" 14 0 fI fdI
  noF : PySem.W.findIn K (.ref CN) "name" = some none
section
variable {P : Program} {w : World} {K : PySem.W.Frag} {mg : Str → Option Value} {base : Heap} {f fB fN CB CN : Addr} {fd fdB fdN : FuncData}
theorem scB : FnScope ["self", "why"] ["self", "why"] (defScope (inClass (top 2) 0)) := fnScope_by (by decide +kernel)
theorem scN : FnScope ["self", "name"] ["self", "name"] (defScope (inClass (top 14) 0)) := fnScope_by (by decide +kernel)
def spIn (C : Addr) (fl : Str) : Sp := fun vs H Q _ => ∃ a y, vs = [.ref a, y] ∧ H a = some (exo a C none) ∧ ∀ dx, H dx = none → dx ≠ a → Q .non (upd (upd H dx (exd dx [(fl, y)])) a (exo a C (some dx)))
theorem ok_initB (B : Bad K mg CB fB fdB) : FnOk P w K mg base C8.CX0 1 fB fdB ["self", "why"] (spIn CB "why") := by
  refine B.F.ok scB (fun vs H Q E h => ?_) fun cdv A outer s H vs Q E hr h => ?_
  · obtain ⟨a, y, rfl, _⟩ := h
    rfl
  · obtain ⟨a, y, rfl, ha, q⟩ := h
    refine ⟨_, pss_one (ps_ost (pv 0) (pv 1)), ?_⟩
    exact ⟨y, rfl, .ref a, rfl, a, CB, rfl, B.oex, B.noF, .inl ⟨ha, q⟩⟩
theorem ok_initS (N : NoS K mg CN fN fdN) : FnOk P w K mg base C8.CX0 1 fN fdN ["self", "name"] (spIn CN "name") := by
  refine N.F.ok scN (fun vs H Q E h => ?_) fun cdv A outer s H vs Q E hr h => ?_
  · obtain ⟨a, y, rfl, _⟩ := h
    rfl
  · obtain ⟨a, y, rfl, ha, q⟩ := h
    refine ⟨_, pss_one (ps_ostX (B := "LookupError") (newId := "LookupError.__new__") (initId := "LookupError.__init__") (bmB := leTail) (pv 0) (pv 1)), ?_⟩
    exact ⟨y, rfl, .ref a, rfl, a, CN, rfl, N.oex, N.noF, ha, q⟩
/-- an error of the class at C was raised, its field fl bears x -/
def Raised (C : Addr) (fl : Str) (x : V) (H : Hp) (E : XK) : Prop := ∀ H' d, Same H H' → H d = none → H' d = some (.xd [(fl, x)]) → E (.ref C) (some d) H'
/-- the making of such an error -/
theorem mk_raised {C : Addr} {fl : Str} {x : V} {σ : L2.St} {H : Hp} {E : XK} {ta : TA} (h : ∀ R : List V → Hp → Prop, R [x] H → ta σ H R) (q : Raised C fl x H E) : tMkO C (spIn C fl) [] ta σ H E := by
  refine h _ ⟨(by simp : [x].length ≤ 1000), fun a ha => ⟨a, x, rfl, upd_same, fun dx hdx ne => ⟨rfl, dx, [(fl, x)], upd_same, ?_, ?_, ?_⟩⟩⟩
  · rw [upd_ne ne, upd_same]
  · rw [upd_ne ne] at hdx
    exact hdx
  · rw [upd_ne ne] at hdx
    refine q _ dx (fun b o hb => ?_) hdx upd_same
    have nb : b ≠ dx := ne_of_none hb hdx
    have na : b ≠ a := ne_of_none hb ha
    rw [upd_ne nb, del_ne na, upd_ne na, upd_ne nb, upd_ne na]
    exact hb
theorem Raised.mono {C : Addr} {fl : Str} {x : V} {H H1 : Hp} {E : XK} (q : Raised C fl x H E) (s : Same H H1) : Raised C fl x H1 E := fun H' d s1 n e => q H' d (s.trans s1) (s.free n) e
theorem scH : FnScope ["self", "node"] ["self", "node"] (defScope (inClass (top 41) 3)) := fnScope_by (by decide +kernel)
def spHalves (C CN : Addr) : Sp := fun vs H Q E => ∃ x T n, vs = [.ref x, spV n] ∧ TreeAt C H x T ∧ P22.Ok T ∧ (P22.leaves T).Nodup ∧ P22.Ok n ∧
  if n ∈ P22.nodes T then ∀ v, HalfOf H n v → Q v H else Raised CN "name" (spV n) H E
theorem ok_halves (tc : Tc K mg) (me : Meth K (cT K) "halves" f) (N : NoS K mg CN fN fdN) (F : Mt K "halves" "Tree.halves" 41 3 f fd) : MetN P w K mg base 3 (cT K) "halves" (spHalves (cT K) CN) := by
  have sc := scH
  have bI : Binds K fdN ["self", "name"] [] := N.F.bindsN fun _ _ _ _ _ _ us hl => match us, hl with | [_, _], _ => rfl
  refine metN tc.cls me F sc (fun _ _ _ _ _ _ us hl => match us, hl with | [_, _], _ => rfl) ?_ fun cdv A outer s H vs Q E hr h => ?_
  · rintro vs H Q E ⟨x, T, n, rfl, _⟩
    rfl
  · obtain ⟨x, T, n, rfl, tr, ok, nd, okn, q⟩ := h
    have room1 : (A.deeper (envOfC "Tree.halves" (defScope (inClass (top 41) 3)) s.heap.objs.size f cdv)).units + 1 < cLine := by have := hr.un; omega
    refine ⟨_, (pss_cons (ps_if (pt_cmp (pc_dnotin room1 (pv 1) (pe_fld (pv 0) rfl)))
        (pss_one (L2N.ps_raise rfl takesN (pmk_oexX N.oex N.init N.initT (ok_initS N) (hr.mono (by decide)) bI C8.pass0 (by rfl) N.gB (pa_cons (pv 1) pa_nil))))
        pss_nil)
      (pss_one (ps_ret (pe_dget room1 (pe_fld (pv 0) rfl) (pv 1) (fun _ _ => rfl))))), ?_⟩
    obtain ⟨dx, lv, nn, d, lo, ab, hx, hlv, hnn, hd, hlo, hab⟩ := tr
    simp only [L2.start, cxOf, tRet, tAndV, tOrV, tNotV, tCB, tCons, tNil, tVar, tC, tOp, tUn, tTest, tB, tIf, tIfS, tSeq, tAsg, tAnd, tOr, tNot, gName, tNext, tCall, tChain, rI, rI0, rEq, rNe, rGcd, rU, tM1, tM0, tSl, tPart, tNoPart, gTup, gCons, gNil, gSub, tTup, tLst, tPar, L2.rI, List.map_cons, List.map_nil, List.length_cons, List.length_nil, List.cons_append, List.nil_append, List.append_nil, List.getElem?_cons_zero, List.getElem?_cons_succ, List.set_cons_zero, List.set_cons_succ, Option.some.injEq, exists_eq_left, exists_eq_left', exists_eq_right, exists_and_left, exists_and_right, List.cons.injEq, and_true, true_and, V.int.injEq, V.str.injEq, V.bl.injEq, V.ref.injEq, List.replicate, Nat.reduceAdd, Nat.reduceSub, reduceCtorEq, false_and, and_false, if_true, if_false, Bool.false_eq_true, Bool.not_true, Bool.not_false, decide_eq_true_eq, exists_false, or_false, false_or, tDNotIn, tFld, tDGet]
    refine ⟨_, _, _, hx, tc.cls, tc.fld _ (by decide), _, rfl, d, rfl, ?_⟩
    by_cases hn : n ∈ P22.nodes T
    · rw [if_pos hn] at q
      obtain ⟨kvs, v, hk, hv, hh⟩ := hd.get ok nd hn
      refine ⟨some v, hv ▸ DGet.k (k := keyS n) hk, ?_⟩
      rw [if_neg (by simp)]
      exact ⟨_, _, _, hx, tc.cls, tc.fld _ (by decide), _, rfl, d, rfl, v, hv ▸ DGet.k (k := keyS n) hk, q v hh⟩
    · rw [if_neg hn] at q
      obtain ⟨kvs, hk, hv⟩ := hd.none ok okn hn
      refine ⟨none, hv ▸ DGet.k (k := keyS n) hk, ?_⟩
      rw [if_pos (by simp)]
      exact mk_raised (fun R k => ⟨_, rfl, k⟩) q
end
end W22

set_option Elab.async false
set_option linter.all false
set_option maxRecDepth 100000
set_option maxHeartbeats 4000000
/-! V22: turned_node -/
namespace P22
open Tr
theorem par_at {b : List Nat} (hb : b ≠ []) : ∀ (a p q acc : List Nat), a = p ++ (b ++ q) → ∃ p' q', TL.par b acc a = some (acc ++ p', q') ∧ a = p' ++ (b ++ q')
  | [], p, q, acc, h => by
    have h2 := congrArg List.length h
    simp only [List.length_append, List.length_nil] at h2
    exact absurd (List.length_eq_zero_iff.mp (by omega : b.length = 0)) hb
  | c :: r, p, q, acc, h => by
    unfold TL.par
    by_cases e : TL.pre b (c :: r) = true
    · rw [if_pos e]
      have e2 : (c :: r).take b.length = b := eq_of_beq e
      refine ⟨[], (c :: r).drop b.length, by rw [List.append_nil], ?_⟩
      rw [List.nil_append]
      exact (List.take_append_drop b.length (c :: r)).symm.trans (by rw [e2])
    · rw [if_neg e]
      match p, h with
      | [], h =>
        exfalso
        refine e ?_
        rw [h]
        exact TL.pre_self b q
      | x :: p, h =>
        have h2 : c = x ∧ r = p ++ (b ++ q) := List.cons.inj h
        obtain ⟨rfl, h2⟩ := h2
        obtain ⟨p', q', h1, h3⟩ := par_at hb r p q (acc ++ [c]) h2
        exact ⟨c :: p', q', by rw [h1, List.append_assoc]; rfl, by rw [h3]; rfl⟩
theorem nodes_trans : ∀ {t m n : Tr}, n ∈ nodes m → m ∈ nodes t → n ∈ nodes t
  | leaf w, m, n, h, k => by
    rw [List.mem_singleton.mp k] at h
    exact h
  | node l r, m, n, h, k => by
    rcases List.mem_append.mp k with k | k
    · rcases List.mem_append.mp k with k | k
      · exact List.mem_append_left _ (List.mem_append_left _ (nodes_trans h k))
      · exact List.mem_append_left _ (List.mem_append_right _ (nodes_trans h k))
    · rw [List.mem_singleton.mp k] at h
      exact h
theorem spell_ne : ∀ {t : Tr}, Ok t → spell t ≠ []
  | leaf w, h => h.name.ne
  | node l r, _ => by simp [spell]
end P22
namespace W22
open PySem PySem.Spec PyProof.Rows L2 Lay
open SX (S S_len S_cat S_tl)
open C8 (Cal Mak Met pe_c pe_gc fnScope_by E0)
/-- a piece of a text that is joined -/
def Piece (σ : L2.St) (H : Hp) (te : TE) (y : List Nat) : Prop := ∀ R : VK, R (.str (S y)) H → te σ H R
def Pieces (σ : L2.St) (H : Hp) : List TE → List (List Nat) → Prop
  | [], [] => True
  | t :: ts, y :: ys => Piece σ H t y ∧ Pieces σ H ts ys
  | _, _ => False
theorem js_all {σ : L2.St} {H : Hp} {R : Str → Hp → Prop} : ∀ {ts : List TE} {ys : List (List Nat)} {acc : List Nat}, Pieces σ H ts ys → acc.length + ys.flatten.length ≤ 1000000 → R (S (acc ++ ys.flatten)) H → tJs ts (S acc) σ H R
  | [], [], acc, _, _, k => by
    rw [List.flatten_nil, List.append_nil] at k
    exact k
  | t :: ts, y :: ys, acc, h, hb, k => by
    rw [List.flatten_cons] at hb k
    rw [List.length_append] at hb
    obtain ⟨h1, h2⟩ := h
    · refine h1 _ ⟨S y, rfl, ?_, ?_⟩
      · rw [S_cat, S_len, List.length_append, sizeLine_eq]
        omega
      · rw [S_cat]
        exact js_all h2 (by rw [List.length_append]; omega) (by rw [List.append_assoc]; exact k)
  | [], _ :: _, _, h, _, _ => h.elim
  | _ :: _, [], _, h, _, _ => h.elim
theorem piece_c {σ : L2.St} {H : Hp} {z : Str} {y : List Nat} (e : z = S y) : Piece σ H (tC (.str z)) y := fun R k => by
  subst e
  exact k
theorem piece_f {σ : L2.St} {H : Hp} {te : TE} {y : List Nat} (hl : y.length ≤ 1000000) (h : ∀ R : VK, R (.str (S y)) H → te σ H R) : Piece σ H (tFmtB te) y := fun R k => h _ (.inl ⟨S y, rfl, by rw [S_len, sizeLine_eq]; omega, k⟩)
section
variable {P : Program} {w : World} {K : PySem.W.Frag} {mg : Str → Option Value} {base : Heap} {f fB fN CB CN : Addr} {fd fdB fdN : FuncData}
theorem sc35 : FnScope ["tree", "word", "node", "halves", "left", "right", "inner"] ["tree", "word", "node"] (defScope (top 38)) := fnScope_by (by decide +kernel)
def spTurned (C CN : Addr) : Sp := fun vs H Q E => ∃ x wd T n, vs = [.ref x, .str (S wd), spV n] ∧ TreeAt C H x T ∧ P22.Ok T ∧ (P22.leaves T).Nodup ∧ P22.Ok n ∧ (P22.spell T).length ≤ 300 ∧ (S wd = ("swap" : Str) ∨ S wd = ("left" : Str) ∨ S wd = ("right" : Str)) ∧
  if n ∈ P22.nodes T then (match doneT wd n with | none => Q .non H | some t => Q (spV t) H) else Raised CN "name" (spV n) H E
theorem ok_turned (m : Mg K mg) (dk : DigK K) (c_halves : MetN P w K mg base 3 (cT K) "halves" (spHalves (cT K) CN)) (F : Fn K "turned_node" 38 f fd) (g : mg "turned_node" = some (.ref f)) : CalN P w K mg base 4 "turned_node" (spTurned (cT K) CN) := by
  have sc := sc35
  refine calN F g sc (fun _ _ _ _ _ _ us hl => match us, hl with | [_, _, _], _ => rfl) ?_ fun cdv A outer s H vs Q E hr h => ?_
  · rintro vs H Q E ⟨x, wd, T, n, rfl, _⟩
    rfl
  · obtain ⟨x, wd, T, n, rfl, tr, ok, nd, okn, sl, hw, q⟩ := h
    refine ⟨_, (pss_cons (ps_set (i := 3) sc.nd rfl (.inl rfl) (pe_mtN c_halves hr (by decide) takesN (pv 0) (pa_cons (pv 2) pa_nil)))
      (pss_cons (ps_if (pt_cmpR op_isN (pv 3) pe_non (nomark _))
        (pss_one (ps_ret pe_non))
        pss_nil)
      (pss_cons (ps_asg (pv 3) (pg_tup rfl (pgs_cons (pg_name (i := 4) sc.nd rfl (.inl rfl)) (pgs_cons (pg_name (i := 5) sc.nd rfl (.inl rfl)) pgs_nil))))
      (pss_cons (ps_if (pt_cmpR op_eq (pv 1) pe_str (nomark _))
        (pss_one (ps_ret (pe_joined (.cons pe_str (.cons (pe_fmtB rfl dk (pv 5)) (.cons pe_str (.cons (pe_fmtB rfl dk (pv 4)) (.cons pe_str PJ.nil))))))))
        pss_nil)
      (pss_cons (ps_if (pt_cmpR op_eq (pv 1) pe_str (nomark _))
        (pss_cons (ps_set (i := 6) sc.nd rfl (.inl rfl) (pe_mtN c_halves hr (by decide) takesN (pv 0) (pa_cons (pv 4) pa_nil)))
        (pss_one (ps_ret (pe_ifExp (pt_cmpR op_isN (pv 6) pe_non (nomark _)) pe_non (pe_joined (.cons pe_str (.cons (pe_fmtB rfl dk (pe_ix ix_tup (pv 6) pe_int (fun _ _ => rfl))) (.cons pe_str (.cons (pe_fmtB rfl dk (pe_ix ix_tup (pv 6) pe_int (fun _ _ => rfl))) (.cons pe_str (.cons (pe_fmtB rfl dk (pv 5)) (.cons pe_str PJ.nil))))))))))))
        pss_nil)
      (pss_cons (ps_set (i := 6) sc.nd rfl (.inl rfl) (pe_mtN c_halves hr (by decide) takesN (pv 0) (pa_cons (pv 5) pa_nil)))
      (pss_one (ps_ret (pe_ifExp (pt_cmpR op_isN (pv 6) pe_non (nomark _)) pe_non (pe_joined (.cons pe_str (.cons (pe_fmtB rfl dk (pv 4)) (.cons pe_str (.cons (pe_fmtB rfl dk (pe_ix ix_tup (pv 6) pe_int (fun _ _ => rfl))) (.cons pe_str (.cons (pe_fmtB rfl dk (pe_ix ix_tup (pv 6) pe_int (fun _ _ => rfl))) (.cons pe_str PJ.nil))))))))))))))))), ?_⟩
    obtain ⟨dx, hx⟩ : ∃ dx, ∃ fs, H x = some (.ins (cT K) dx fs) ∧ fs.lookup ("halves" : Str) = none := by
      obtain ⟨dx, lv, nn, d, lo, ab, hx, _⟩ := tr
      exact ⟨dx, _, hx, rfl⟩
    obtain ⟨fs, hx, hfs⟩ := hx
    simp only [L2.start, cxOf, tRet, tAndV, tOrV, tNotV, tCB, tCons, tNil, tVar, tC, tOp, tUn, tTest, tB, tIf, tIfS, tSeq, tAsg, tAnd, tOr, tNot, gName, tNext, tCall, tChain, rI, rI0, rEq, rNe, rGcd, rU, tM1, tM0, tSl, tPart, tNoPart, gTup, gCons, gNil, gSub, tTup, tLst, tPar, L2.rI, List.map_cons, List.map_nil, List.length_cons, List.length_nil, List.cons_append, List.nil_append, List.append_nil, List.getElem?_cons_zero, List.getElem?_cons_succ, List.set_cons_zero, List.set_cons_succ, Option.some.injEq, exists_eq_left, exists_eq_left', exists_eq_right, exists_and_left, exists_and_right, List.cons.injEq, and_true, true_and, V.int.injEq, V.str.injEq, V.bl.injEq, V.ref.injEq, List.replicate, Nat.reduceAdd, Nat.reduceSub, reduceCtorEq, false_and, and_false, if_true, if_false, Bool.false_eq_true, Bool.not_true, Bool.not_false, decide_eq_true_eq, exists_false, or_false, false_or, tMethN, WE]
    refine ⟨dx, fs, hx, hfs, x, T, n, rfl, tr, ok, nd, okn, ?_⟩
    by_cases hn : n ∈ P22.nodes T
    · rw [if_pos hn] at q ⊢
      have bn : ∀ {n : P22.Tr}, n ∈ P22.nodes T → (P22.spell n).length ≤ 300 := fun h => Nat.le_trans (P22.spell_sub h) sl
      cases n with
      | leaf u =>
        rintro v rfl
        rw [if_pos rfl]
        exact q
      | node l r =>
        rintro v ⟨t, rfl, ht⟩
        have hl : l ∈ P22.nodes T := P22.nodes_trans (List.mem_append_left _ (List.mem_append_left _ (P22.self_mem l))) hn
        have hr2 : r ∈ P22.nodes T := P22.nodes_trans (List.mem_append_left _ (List.mem_append_right _ (P22.self_mem r))) hn
        have bl := bn hl
        have br := bn hr2
        rw [if_neg (by simp)]
        refine ⟨t, rfl, _, sqT_of ht, rfl, _, _, rfl, _, _, rfl, rfl, rfl, ?_⟩
        by_cases c1 : S wd = ("swap" : Str)
        · rw [if_pos c1]
          have q2 : Q (spV (.node r l)) H := by
            unfold doneT at q
            dsimp only at q
            rw [if_pos c1] at q
            exact q
          refine js_all (acc := []) (ys := [[40], P22.spell r, [32], P22.spell l, [41]]) ⟨piece_c (by decide +kernel), piece_f (by omega) fun R k => ⟨_, rfl, k⟩, piece_c (by decide +kernel), piece_f (by omega) fun R k => ⟨_, rfl, k⟩, piece_c (by decide +kernel), trivial⟩ ?_ ?_
          · simp only [List.flatten_cons, List.flatten_nil, List.length_append, List.length_cons, List.length_nil]
            omega
          · have e : [] ++ [[40], P22.spell r, [32], P22.spell l, [41]].flatten = P22.spell (.node r l) := by simp [P22.spell]
            rw [e]
            exact q2
        · rw [if_neg c1]
          refine ⟨rfl, ?_⟩
          by_cases c2 : S wd = ("right" : Str)
          · rw [if_pos c2]
            unfold doneT at q
            dsimp only at q
            rw [if_neg c1, if_pos c2] at q
            refine ⟨dx, fs, hx, hfs, x, T, l, rfl, tr, ok, nd, okn.l, ?_⟩
            rw [if_pos hl]
            cases l with
            | leaf u =>
              rintro v rfl
              rw [if_pos rfl]
              exact q
            | node a b =>
              rintro v ⟨t2, rfl, ht2⟩
              rw [if_neg (by simp)]
              have ba := bn (P22.nodes_trans (List.mem_append_left _ (List.mem_append_left _ (P22.self_mem a))) hl)
              have bb := bn (P22.nodes_trans (List.mem_append_left _ (List.mem_append_right _ (P22.self_mem b))) hl)
              refine js_all (acc := []) (ys := [[40], P22.spell a, [32, 40], P22.spell b, [32], P22.spell r, [41, 41]]) ⟨piece_c (by decide +kernel), piece_f (by omega) fun R k => ⟨_, rfl, ixT ht2 0 rfl k⟩, piece_c (by decide +kernel), piece_f (by omega) fun R k => ⟨_, rfl, ixT ht2 1 rfl k⟩,
                piece_c (by decide +kernel), piece_f (by omega) fun R k => ⟨_, rfl, k⟩, piece_c (by decide +kernel), trivial⟩ ?_ ?_
              · simp only [List.flatten_cons, List.flatten_nil, List.length_append, List.length_cons, List.length_nil]
                omega
              · have e : [] ++ [[40], P22.spell a, [32, 40], P22.spell b, [32], P22.spell r, [41, 41]].flatten = P22.spell (.node a (.node b r)) := by simp [P22.spell]
                rw [e]
                exact q
          · rw [if_neg c2]
            have c3 : S wd = ("left" : Str) := hw.elim (fun z => absurd z c1) fun z => z.elim id fun z => absurd z c2
            unfold doneT at q
            dsimp only at q
            rw [if_neg c1, if_neg c2, if_pos c3] at q
            refine ⟨dx, fs, hx, hfs, x, T, r, rfl, tr, ok, nd, okn.r, ?_⟩
            rw [if_pos hr2]
            cases r with
            | leaf u =>
              rintro v rfl
              rw [if_pos rfl]
              exact q
            | node a b =>
              rintro v ⟨t2, rfl, ht2⟩
              rw [if_neg (by simp)]
              have ba := bn (P22.nodes_trans (List.mem_append_left _ (List.mem_append_left _ (P22.self_mem a))) hr2)
              have bb := bn (P22.nodes_trans (List.mem_append_left _ (List.mem_append_right _ (P22.self_mem b))) hr2)
              refine js_all (acc := []) (ys := [[40, 40], P22.spell l, [32], P22.spell a, [41, 32], P22.spell b, [41]]) ⟨piece_c (by decide +kernel), piece_f (by omega) fun R k => ⟨_, rfl, k⟩, piece_c (by decide +kernel), piece_f (by omega) fun R k => ⟨_, rfl, ixT ht2 0 rfl k⟩,
                piece_c (by decide +kernel), piece_f (by omega) fun R k => ⟨_, rfl, ixT ht2 1 rfl k⟩, piece_c (by decide +kernel), trivial⟩ ?_ ?_
              · simp only [List.flatten_cons, List.flatten_nil, List.length_append, List.length_cons, List.length_nil]
                omega
              · have e : [] ++ [[40, 40], P22.spell l, [32], P22.spell a, [41, 32], P22.spell b, [41]].flatten = P22.spell (.node (.node l a) b) := by simp [P22.spell]
                rw [e]
                exact q
    · rw [if_neg hn] at q ⊢
      exact q
end
end W22

set_option Elab.async false
set_option linter.all false
set_option maxRecDepth 100000
set_option maxHeartbeats 4000000
/-! X22: turn_tree -/
namespace P22
open Tr
theorem put_perm {old new : Tr} (h : (leaves new).Perm (leaves old)) : ∀ t : Tr, (leaves (put old new t)).Perm (leaves t)
  | leaf w => by
    unfold put
    by_cases e : leaf w = old
    · rw [if_pos e, e]
      exact h
    · rw [if_neg e]
  | node l r => by
    unfold put
    by_cases e : node l r = old
    · rw [if_pos e, e]
      exact h
    · rw [if_neg e]
      exact List.Perm.append (put_perm h l) (put_perm h r)
end P22
namespace W22
open PySem PySem.Spec PyProof.Rows L2 Lay
open SX (S S_len S_cat S_tl)
open C8 (Cal Mak Met pe_c pe_mk pe_gc fnScope_by E0)
theorem done_node {wd : List Nat} {n t : P22.Tr} (h : doneT wd n = some t) : (∃ a b, n = .node a b) ∧ (P22.leaves t).Perm (P22.leaves n) := by
  cases n with
  | leaf u => cases h
  | node l r =>
    refine ⟨⟨l, r, rfl⟩, ?_⟩
    unfold doneT at h
    dsimp only at h
    by_cases c1 : S wd = ("swap" : Str)
    · rw [if_pos c1] at h
      cases h
      exact List.perm_append_comm
    rw [if_neg c1] at h
    by_cases c2 : S wd = ("right" : Str)
    · rw [if_pos c2] at h
      cases l with
      | leaf u => cases h
      | node a b =>
        cases h
        simp only [P22.leaves, List.append_assoc]
        exact List.Perm.refl _
    rw [if_neg c2] at h
    by_cases c3 : S wd = ("left" : Str)
    · rw [if_pos c3] at h
      cases r with
      | leaf u => cases h
      | node a b =>
        cases h
        simp only [P22.leaves, List.append_assoc]
        exact List.Perm.refl _
    rw [if_neg c3] at h
    cases h
/-- a tree that may be made -/
structure Fine (T : P22.Tr) : Prop where
  good : P22.Good nameB T
  nd : (P22.leaves T).Nodup
  few : (P22.leaves T).length ≤ 24
theorem Fine.ok {T : P22.Tr} (h : Fine T) : P22.Ok T := h.good.ok
theorem Fine.perm {T U : P22.Tr} (h : Fine T) (p : (P22.leaves U).Perm (P22.leaves T)) : Fine U := ⟨fun w hw => h.good w (p.mem_iff.mp hw), p.nodup_iff.mpr h.nd, by rw [p.length_eq]; exact h.few⟩
theorem Fine.put {T n t : P22.Tr} {wd : List Nat} (h : Fine T) (e : doneT wd n = some t) : Fine (P22.put n t T) := h.perm (P22.put_perm (done_node e).2 T)
theorem Fine.len {T : P22.Tr} (h : Fine T) : (P22.spell T).length ≤ 300 := by
  have := P22.spell_len (k := 8) fun u hu => name_len (h.good u hu).1
  have := h.few
  omega
theorem mk_tree {C : Addr} {T : P22.Tr} {H1 : Hp} {Q : VK} {E : XK} (h : Fine T) (k : ∀ H' x, Same H1 H' → H1 x = none → TreeAt C H' x T → Q (.ref x) H') :
    ∀ x dx, H1 x = none → H1 dx = none → dx ≠ x → spInit C [.ref x, .str (S (P22.spell T))] (upd (upd H1 dx (.own x)) x (.ins C dx [])) (fun v H2 => v = .non ∧ Q (.ref x) H2) E := fun x dx hx hdx ne =>
  ⟨x, dx, T, rfl, upd_same, h.good, h.nd, h.few, fun H' kp tr => ⟨rfl, k H' x (fun b u hb => kp b u (ne_of_none hb hx) (by
    rw [upd_ne (ne_of_none hb hx), upd_ne (ne_of_none hb hdx)]
    exact hb)) hx tr⟩⟩
def DeedW (wd : List Nat) : Prop := S wd = ("swap" : Str) ∨ S wd = ("left" : Str) ∨ S wd = ("right" : Str)
instance (wd : List Nat) : Decidable (DeedW wd) := inferInstanceAs (Decidable (_ ∨ _ ∨ _))
theorem dp_strs {K : PySem.W.Frag} {H : Hp} : ∀ xs : List P22.Wd, DpAll K H (wV xs) (xs.map fun w => PyData.str (S w))
  | [] => .nil
  | x :: xs => .cons (.str _) (dp_strs xs)
theorem lay_strs : ∀ {xs : List P22.Wd}, (∀ u ∈ xs, PyData.strOk (S u) = true) → PyData.canLayAll0 (xs.map fun w => PyData.str (S w)) = true
  | [], _ => rfl
  | x :: xs, h => by
    simp [PyData.canLayAll0, PyData.canLay0, h x List.mem_cons_self, lay_strs (xs := xs) fun u hu => h u (List.mem_cons_of_mem _ hu)]
theorem depth_strs : ∀ xs : List P22.Wd, PyData.depthAll (xs.map fun w => PyData.str (S w)) ≤ 1
  | [] => by simp [PyData.depthAll]
  | x :: xs => by
    have := depth_strs xs
    simp only [List.map_cons, PyData.depthAll, PyData.depth]
    omega
theorem eq_nilS {K : PySem.W.Frag} {H : Hp} {a l : Addr} {xs : List P22.Wd} {Q : VK} (ha : SqL K H a (wV xs)) (hl : H l = some (.lst [])) (ho : ∀ u ∈ xs, PyData.strOk (S u) = true) (q : Q (.bl (decide (xs = []))) H) : rEqD K (.ref a) (.ref l) H Q := by
  refine ⟨_, .list [], .lst ha (dp_strs xs), .lst (SqL.of hl) .nil, ?_, by decide +kernel, ?_⟩
  · unfold SeqAt.shaped
    have := depth_strs xs
    simp only [PyData.canLay0, PyData.depth, lay_strs ho, Bool.true_and, decide_eq_true_eq]
    exact decide_eq_true (by omega)
  · have e : PyData.eqv (.list (xs.map fun w => PyData.str (S w))) (.list []) = decide (xs = []) := by
      cases xs <;> rfl
    rw [e]
    exact q
section
variable {P : Program} {w : World} {K : PySem.W.Frag} {mg : Str → Option Value} {base : Heap} {f fB fN CB CN : Addr} {fd fdB fdN : FuncData}
theorem sc36 : FnScope ["tree", "deed", "words", "node", "turned", "head", "_", "tail"] ["tree", "deed"] (defScope (top 39)) := fnScope_by (by decide +kernel)
def spTurn (C CB CN : Addr) : Sp := fun vs H Q E => ∃ x T a, vs = [.ref x, .str (S a)] ∧ TreeAt C H x T ∧ Fine T ∧ a.length ≤ 100000 ∧ (P22.words a).length < 4000 ∧ (∀ u ∈ P22.words a, u.length ≤ 100000 ∧ PyData.strOk (S u) = true) ∧ ((P22.words a).map List.length).sum ≤ 100000 ∧
  (((P22.words a = [] ∨ ∃ wd r, P22.words a = wd :: r ∧ (¬ DeedW wd ∨ P22.namesOf nameB r = none)) ∧ Raised CB "why" (.str "no deed") H E) ∨
    ∃ wd n, P22.words a = wd :: P22.toks n ∧ DeedW wd ∧ P22.Good nameB n ∧ (P22.leaves n).Nodup ∧
      if n ∈ P22.nodes T then (match doneT wd n with
        | none => Raised CB "why" (.str "the deed is not possible at this node") H E
        | some t => ∀ H' y, Same H H' → H y = none → TreeAt C H' y (P22.put n t T) → Q (.ref y) H') else Raised CN "name" (spV n) H E)
theorem ok_turnF (m : Mg K mg) (tc : Tc K mg) (B : Bad K mg CB fB fdB) (c_tree_words : Cal P w K mg base 2 "tree_words" spTW []) (c_tree_names : Cal P w K mg base 3 "tree_names" spNames []) (c_tree_text : Cal P w K mg base 1 "tree_text" spTT [])
    (c_turned_node : CalN P w K mg base 4 "turned_node" (spTurned (cT K) CN)) (c_Tree : Mak P w K mg base 4 "Tree" (cT K) (spInit (cT K)) []) (F : Fn K "turn_tree" 39 f fd) : FnOk P w K mg base (L2N.CX P w) 6 f fd ["tree", "deed"] (spTurn (cT K) CB CN) := by
  have sc := sc36
  have bI : Binds K fdB ["self", "why"] [] := B.F.bindsN fun _ _ _ _ _ _ us hl => match us, hl with | [_, _], _ => rfl
  refine F.ok sc ?_ fun cdv A outer s H vs Q E hr h => ?_
  · rintro vs H Q E ⟨x, T, a, rfl, _⟩
    rfl
  · obtain ⟨x, T, a, rfl, tr, fine, al, fw, ow, sw, q⟩ := h
    have room64 : (A.deeper (envOfC "turn_tree" (defScope (top 39)) s.heap.objs.size f cdv)).units + 64 < cLine := by have := hr.un; omega
    refine ⟨_, (pss_cons (ps_set (i := 2) sc.nd rfl (.inl rfl) (pe_c c_tree_words hr (by decide) (by rfl) (pa_cons (pv 1) pa_nil)))
      (pss_cons (ps_if ((pw_or (pt_cmpR (op_eqD room64) (pv 2) (pe_lst pa_nil) (nomark _)) (pw_or (pt_cmpR op_notIn_seq (pe_ix ix_list (pv 2) pe_int (fun _ _ => rfl)) (pe_gc (v := .ref (He.ga K "DEEDS")) (by rfl) ⟨_, m.deeds, rfl⟩) (by rfl)) (pw_or1 (pt_cmpR op_isN (pe_c c_tree_names hr (by decide) (by rfl) (pa_cons (pe_slice sl_list (pv 2) (po_some pe_int) po_none) pa_nil)) pe_non (nomark _)))))).pt
        (pss_one (L2N.ps_raise rfl takesN (pmk_oexN B.oex B.init B.initT (ok_initB B) (hr.mono (by decide)) bI C8.pass0 (by rfl) B.gB (pa_cons pe_str pa_nil))))
        pss_nil)
      (pss_cons (ps_set (i := 3) sc.nd rfl (.inl rfl) (pe_c c_tree_text hr (by decide) (by rfl) (pa_cons (pe_slice sl_list (pv 2) (po_some pe_int) po_none) pa_nil)))
      (pss_cons (ps_set (i := 4) sc.nd rfl (.inl rfl) (pe_cN c_turned_node hr (by decide) (by rfl) takesN (pa_cons (pv 0) (pa_cons (pe_ix ix_list (pv 2) pe_int (fun _ _ => rfl)) (pa_cons (pv 3) pa_nil)))))
      (pss_cons (ps_if (pt_cmpR op_isN (pv 4) pe_non (nomark _))
        (pss_one (L2N.ps_raise rfl takesN (pmk_oexN B.oex B.init B.initT (ok_initB B) (hr.mono (by decide)) bI C8.pass0 (by rfl) B.gB (pa_cons pe_str pa_nil))))
        pss_nil)
      (pss_cons (ps_asg (pe_partition (pe_fld (pv 0) rfl) (pv 3)) (pg_tup rfl (pgs_cons (pg_name (i := 5) sc.nd rfl (.inl rfl)) (pgs_cons (pg_name (i := 6) sc.nd rfl (.inl rfl)) (pgs_cons (pg_name (i := 7) sc.nd rfl (.inl rfl)) pgs_nil)))))
      (pss_one (ps_ret (pe_mk c_Tree hr (by decide) (by rfl) (pa_cons (pe_op op_add_str (pe_op op_add_str (pv 5) (pv 4)) (pv 7)) pa_nil)))))))))), ?_⟩
    simp only [L2.start, cxOf, tRet, tAndV, tOrV, tNotV, tCB, tCons, tNil, tVar, tC, tOp, tUn, tTest, tB, tSeq, tAsg, tNot, gName, tNext, tCall, tChain, rI, rI0, rEq, rNe, rGcd, rU, tM1, tM0, tSl, tPart, tNoPart, gTup, gCons, gNil, gSub, tTup, tLst, tPar, L2.rI, List.map_cons, List.map_nil, List.length_cons, List.length_nil, List.cons_append, List.nil_append, List.append_nil, List.getElem?_cons_zero, List.getElem?_cons_succ, List.set_cons_zero, List.set_cons_succ, Option.some.injEq, exists_eq_left, exists_eq_left', exists_eq_right, exists_and_left, exists_and_right, List.cons.injEq, and_true, true_and, V.int.injEq, V.str.injEq, V.bl.injEq, V.ref.injEq, List.replicate, Nat.reduceAdd, Nat.reduceSub, reduceCtorEq, false_and, and_false, if_true, if_false, Bool.false_eq_true, Bool.not_true, Bool.not_false, decide_eq_true_eq, exists_false, or_false, false_or, tMake]
    refine ⟨a, rfl, by omega, fun H1 ws s1 n1 hw => ?_⟩
    generalize eW : P22.words a = W at hw fw ow sw q
    have bad : (W = [] ∨ ∃ wd r, W = wd :: r ∧ (¬ DeedW wd ∨ P22.namesOf nameB r = none)) ∨ ∃ wd r ns, W = wd :: r ∧ DeedW wd ∧ P22.namesOf nameB r = some ns := by
      cases W with
      | nil => exact .inl (.inl rfl)
      | cons wd r =>
        by_cases c : DeedW wd
        · cases e : P22.namesOf nameB r with
          | none => exact .inl (.inr ⟨wd, r, rfl, .inr e⟩)
          | some ns => exact .inr ⟨wd, r, ns, rfl, c, e⟩
        · exact .inl (.inr ⟨wd, r, rfl, .inl c⟩)
    have cond : ∀ (σ : L2.St) (b : Bool), σ[2]? = some (some (.ref ws)) → (b = true ↔ (W = [] ∨ ∃ wd r, W = wd :: r ∧ (¬ DeedW wd ∨ P22.namesOf nameB r = none))) → ∀ R : Bool → Hp → Prop, (∀ H', Same H1 H' → R b H') →
        tOr (tTest (tOp (rEqD K) (tVar 2) (tLst tNil)))
        (tOr
          (tTest
            (tOp (rIn K true) (tOp (rIxL K) (tVar 2) (tC (V.int 0))) (tC (V.ref (He.ga K (Str.ofString "DEEDS"))))))
          (tTest
            (tOp (fun x y H Q => y = V.non ∧ Q (V.bl (decide (x = V.non))) H)
              (tCall spNames [] C8.E0 (tCons (tSl (rSlL K) (tVar 2) (tPart (tC (V.int 1))) tNoPart) tNil))
              (tC V.non)))) σ H1 R := by
      intro σ b hσ hb R k
      simp only [L2.start, cxOf, tRet, tAndV, tOrV, tNotV, tCB, tCons, tNil, tVar, tC, tOp, tUn, tTest, tB, tIf, tIfS, tSeq, tAsg, tAnd, tOr, tNot, gName, tNext, tCall, tChain, rI, rI0, rEq, rNe, rGcd, rU, tM1, tM0, tSl, tPart, tNoPart, gTup, gCons, gNil, gSub, tTup, tLst, tPar, L2.rI, List.map_cons, List.map_nil, List.length_cons, List.length_nil, List.cons_append, List.nil_append, List.append_nil, List.getElem?_cons_zero, List.getElem?_cons_succ, List.set_cons_zero, List.set_cons_succ, Option.some.injEq, exists_eq_left, exists_eq_left', exists_eq_right, exists_and_left, exists_and_right, List.cons.injEq, and_true, true_and, V.int.injEq, V.str.injEq, V.bl.injEq, V.ref.injEq, List.replicate, Nat.reduceAdd, Nat.reduceSub, reduceCtorEq, false_and, and_false, if_true, if_false, Bool.false_eq_true, Bool.not_true, Bool.not_false, decide_eq_true_eq, exists_false, or_false, false_or, hσ]
      refine ⟨small (by decide), fun p hp => ?_⟩
      have hw2 := same_new (o := .lst []) hp _ _ hw
      refine eq_nilS (SqL.of hw2) upd_same (fun u hu => (ow u hu).2) ?_
      refine ⟨_, rfl, ?_⟩
      by_cases e0 : W = []
      · rw [if_pos (decide_eq_true e0)]
        rw [hb.mpr (.inl e0)] at k
        exact k _ (same_new hp)
      rw [if_neg (by simpa using e0)]
      obtain ⟨wd, r, rfl⟩ : ∃ wd r, W = wd :: r := by
        cases W with
        | nil => exact absurd rfl e0
        | cons wd r => exact ⟨wd, r, rfl⟩
      refine ixL (SqL.of hw2) 0 rfl ⟨_, _, rfl, .inr (m.deedsT _), rfl, by decide, ?_⟩
      rw [if_pos rfl, inV_S]
      refine ⟨_, rfl, ?_⟩
      have dw : (wd ∈ deeds.map fun x : Str => x.cps.toList) ↔ DeedW wd := by
        have key : ∀ z : Str, wd = z.cps.toList ↔ S wd = z := fun z => ⟨fun h => by rw [h], fun h => by rw [← h]⟩
        simp only [deeds, List.map_cons, List.map_nil, List.mem_cons, List.not_mem_nil, or_false]
        unfold DeedW
        rw [key, key, key]
      by_cases c : DeedW wd
      · rw [if_neg (by simp [dw, c])]
        refine ⟨ws, _, rfl, SqL.of hw2, fun q2 hq2 => ?_⟩
        have ec : cutV (List.map (fun w => V.str (S w)) (wd :: r)) (some 1) none = wV r := cut_from (k := 1) (by simp)
        simp only [ec]
        refine ⟨q2, r, rfl, upd_same, by simp at fw; omega, fun u hu => Nat.le_trans (ow u (List.mem_cons_of_mem _ hu)).1 (by omega), ?_⟩
        cases en : P22.namesOf nameB r with
        | none =>
          rw [hb.mpr (.inr ⟨wd, r, rfl, .inr en⟩)] at k
          exact fun H' s2 => k _ (((same_new hp).trans (same_new hq2)).trans s2)
        | some ns =>
          have bf : b = false := by
            cases b with
            | false => rfl
            | true =>
              rcases hb.mp rfl with z | ⟨wd', r', z, z2⟩
              · cases z
              · cases z
                rcases z2 with z2 | z2
                · exact absurd c z2
                · rw [en] at z2
                  cases z2
          rw [bf] at k
          exact fun H' a2 s2 _ _ => k _ (((same_new hp).trans (same_new hq2)).trans s2)
      · rw [if_pos (by simp [dw, c])]
        rw [hb.mpr (.inr ⟨wd, r, rfl, .inl c⟩)] at k
        exact k _ (same_new hp)
    rcases q with ⟨cbad, q⟩ | ⟨wd, n, hW, dwd, gn, ndn, q⟩
    · refine cond _ true rfl ⟨fun _ => cbad, fun _ => rfl⟩ _ fun H2 s2 => ?_
      rw [if_pos rfl]
      exact mk_raised (fun R k => k) (q.mono (s1.trans s2))
    · refine cond _ false rfl ⟨(fun z => by cases z), fun z => ?_⟩ _ fun H2 s2 => ?_
      · rcases z with z | ⟨wd', r, z, z2⟩
        · rw [hW] at z
          cases z
        · rw [hW] at z
          cases z
          rcases z2 with z2 | z2
          · exact absurd dwd z2
          · rw [P22.names_toks gn ndn] at z2
            cases z2
      · rw [if_neg (by simp)]
        have hw2 := s2 _ _ hw
        rw [hW] at hw2 fw ow sw
        have okn := gn.ok
        simp only [L2.start, cxOf, tRet, tAndV, tOrV, tNotV, tCB, tCons, tNil, tVar, tC, tOp, tUn, tTest, tB, tIf, tIfS, tSeq, tAsg, tAnd, tOr, tNot, gName, tNext, tCall, tChain, rI, rI0, rEq, rNe, rGcd, rU, tM1, tM0, tSl, tPart, tNoPart, gTup, gCons, gNil, gSub, tTup, tLst, tPar, L2.rI, List.map_cons, List.map_nil, List.length_cons, List.length_nil, List.cons_append, List.nil_append, List.append_nil, List.getElem?_cons_zero, List.getElem?_cons_succ, List.set_cons_zero, List.set_cons_succ, Option.some.injEq, exists_eq_left, exists_eq_left', exists_eq_right, exists_and_left, exists_and_right, List.cons.injEq, and_true, true_and, V.int.injEq, V.str.injEq, V.bl.injEq, V.ref.injEq, List.replicate, Nat.reduceAdd, Nat.reduceSub, reduceCtorEq, false_and, and_false, if_true, if_false, Bool.false_eq_true, Bool.not_true, Bool.not_false, decide_eq_true_eq, exists_false, or_false, false_or]
        have sm2 : Same H H2 := s1.trans s2
        refine ⟨ws, _, rfl, SqL.of hw2, fun q1 hq1 => ?_⟩
        have ec : cutV (List.map (fun w => V.str (S w)) (wd :: P22.toks n)) (some 1) none = wV (P22.toks n) := cut_from (k := 1) (by simp)
        simp only [ec]
        have few2 : (P22.toks n).length < 4000 := by
          rw [List.length_cons] at fw
          omega
        have sum2 : ((P22.toks n).map List.length).sum ≤ 100000 := by
          rw [List.map_cons, List.sum_cons] at sw
          omega
        refine ⟨q1, P22.toks n, rfl, upd_same, by omega, fun H3 s3 => ?_⟩
        rw [P22.text_toks okn]
        have sm3 : Same H2 H3 := (same_new hq1).trans s3
        have hw3 := sm3 _ _ hw2
        have sm03 : Same H H3 := sm2.trans sm3
        simp only [L2.start, cxOf, tRet, tAndV, tOrV, tNotV, tCB, tCons, tNil, tVar, tC, tOp, tUn, tTest, tB, tIf, tIfS, tSeq, tAsg, tAnd, tOr, tNot, gName, tNext, tCall, tChain, rI, rI0, rEq, rNe, rGcd, rU, tM1, tM0, tSl, tPart, tNoPart, gTup, gCons, gNil, gSub, tTup, tLst, tPar, L2.rI, List.map_cons, List.map_nil, List.length_cons, List.length_nil, List.cons_append, List.nil_append, List.append_nil, List.getElem?_cons_zero, List.getElem?_cons_succ, List.set_cons_zero, List.set_cons_succ, Option.some.injEq, exists_eq_left, exists_eq_left', exists_eq_right, exists_and_left, exists_and_right, List.cons.injEq, and_true, true_and, V.int.injEq, V.str.injEq, V.bl.injEq, V.ref.injEq, List.replicate, Nat.reduceAdd, Nat.reduceSub, reduceCtorEq, false_and, and_false, if_true, if_false, Bool.false_eq_true, Bool.not_true, Bool.not_false, decide_eq_true_eq, exists_false, or_false, false_or, tCallS, WE]
        refine ixL (SqL.of hw3) 0 rfl ⟨x, wd, T, n, rfl, tr.same sm03, fine.ok, fine.nd, okn, fine.len, dwd, ?_⟩
        by_cases hn : n ∈ P22.nodes T
        · rw [if_pos hn] at q ⊢
          cases ed : doneT wd n with
          | none =>
            rw [ed] at q
            dsimp only
            rw [if_pos rfl]
            exact mk_raised (fun R k => k) (q.mono sm03)
          | some t =>
            rw [ed] at q
            dsimp only
            rw [if_neg (by simp)]
            obtain ⟨dx, lv, nn, d, lo, ab, hx, _⟩ := tr.same sm03
            obtain ⟨⟨na, nb, en⟩, pm⟩ := done_node ed
            obtain ⟨p0, q0, es⟩ := P22.spell_in hn
            obtain ⟨p1, q1', ep, es2⟩ := P22.par_at (P22.spell_ne okn) _ _ _ [] es
            rw [List.nil_append] at ep
            have pt : Txt.partition (S (P22.spell T)) (S (P22.spell n)) = (S p1, S (P22.spell n), S q1') := SX.partition_some (P22.spell_ne okn) ep
            have nsp : (P22.spell (P22.put n t T)) = p1 ++ (P22.spell t ++ q1') := by
              subst en
              exact (P22.spell_put okn fine.ok fine.nd es2).2
            have fine2 : Fine (P22.put n t T) := fine.put ed
            have tl := fine2.len
            rw [nsp, List.length_append, List.length_append] at tl
            have nl := P22.spell_sub hn
            have fl := fine.len
            refine ⟨_, rfl, x, _, _, _, _, rfl, hx, tc.cls, tc.fld _ (by decide), rfl, ?_⟩
            refine ⟨⟨_, rfl⟩, _, rfl, ?_, by rw [S_len, sizeLine_eq]; omega, fun pp hpp => ?_⟩
            · rw [S_len]
              have := List.length_pos_iff.mpr (P22.spell_ne okn)
              cases e : (P22.spell n).length with
              | zero => omega
              | succ k => rfl
            · rw [pt]
              refine ⟨_, sqT_of upd_same, rfl, _, _, rfl, _, _, rfl, _, _, rfl, rfl, ?_⟩
              simp only [L2.start, cxOf, tRet, tAndV, tOrV, tNotV, tCB, tCons, tNil, tVar, tC, tOp, tUn, tTest, tB, tIf, tIfS, tSeq, tAsg, tAnd, tOr, tNot, gName, tNext, tCall, tChain, rI, rI0, rEq, rNe, rGcd, rU, tM1, tM0, tSl, tPart, tNoPart, gTup, gCons, gNil, gSub, tTup, tLst, tPar, L2.rI, List.map_cons, List.map_nil, List.length_cons, List.length_nil, List.cons_append, List.nil_append, List.append_nil, List.getElem?_cons_zero, List.getElem?_cons_succ, List.set_cons_zero, List.set_cons_succ, Option.some.injEq, exists_eq_left, exists_eq_left', exists_eq_right, exists_and_left, exists_and_right, List.cons.injEq, and_true, true_and, V.int.injEq, V.str.injEq, V.bl.injEq, V.ref.injEq, List.replicate, Nat.reduceAdd, Nat.reduceSub, reduceCtorEq, false_and, and_false, if_true, if_false, Bool.false_eq_true, Bool.not_true, Bool.not_false, decide_eq_true_eq, exists_false, or_false, false_or, tMake]
              refine ⟨by rw [S_len, S_len, sizeLine_eq]; omega, by rw [S_cat, S_len, S_len, List.length_append, sizeLine_eq]; omega, ?_⟩
              have eT : S p1 ++ S (P22.spell t) ++ S q1' = S (P22.spell (P22.put n t T)) := by rw [S_cat, S_cat, nsp, List.append_assoc]
              rw [eT]
              exact mk_tree fine2 fun H' y sm ny trn => q H' y ((sm03.trans (same_new hpp)).trans sm) ((sm03.trans (same_new hpp)).free ny) trn
        · rw [if_neg hn] at q ⊢
          exact q.mono sm03
theorem ok_turn (m : Mg K mg) (tc : Tc K mg) (B : Bad K mg CB fB fdB) (c_tree_words : Cal P w K mg base 2 "tree_words" spTW []) (c_tree_names : Cal P w K mg base 3 "tree_names" spNames []) (c_tree_text : Cal P w K mg base 1 "tree_text" spTT [])
    (c_turned_node : CalN P w K mg base 4 "turned_node" (spTurned (cT K) CN)) (c_Tree : Mak P w K mg base 4 "Tree" (cT K) (spInit (cT K)) []) (F : Fn K "turn_tree" 39 f fd) (g : mg "turn_tree" = some (.ref f)) : CalN P w K mg base 6 "turn_tree" (spTurn (cT K) CB CN) :=
  ⟨f, fd, ["tree", "deed"], ok_turnF m tc B c_tree_words c_tree_names c_tree_text c_turned_node c_Tree F, g, F.kp, F.bindsN (fun _ _ _ _ _ _ us hl => match us, hl with | [_, _], _ => rfl)⟩
/-- turn_tree(tree, deed=..) -/
theorem kbn_turn (F : Fn K "turn_tree" 39 f fd) : KBn K fd ["tree", "deed"] 1 ["deed"] (fun us ws => us ++ ws) (fun vs zs => vs ++ zs) := by
  obtain ⟨oc, od, dV, kV, doc, pm, an, cdv, ct, osl, rfl, lk, hcd, hD, hK⟩ := F.ex
  rcases hD with ⟨_, rfl⟩ | ⟨e, _⟩
  · refine ⟨fun s us ws _ l1 l2 => ?_, fun r1 r2 => r1.append r2⟩
    match us, ws, l1, l2 with
    | [a], [b], _, _ => exact .of_eq rfl
  · exact absurd rfl e
end
end W22

set_option Elab.async false
set_option linter.all false
set_option maxRecDepth 100000
set_option maxHeartbeats 4000000
/-! Y22: len, iter and == of trees -/
namespace W22
open PySem PySem.Spec PyProof.Rows L2 Lay
open SX (S S_len S_cat S_tl)
open C8 (Cal Mak Met pe_c pe_mk pe_gc fnScope_by E0)
/-- what isinstance asks of the class -/
structure Ti (K : PySem.W.Frag) : Prop where
  cl : PySem.W.findIn K (.ref (cT K)) "__class__" = some (some (.builtin "object.__class__"))
  hn : PySem.W.specialIn K (.builtin "object.__class__") "__get__" = some (some (.builtin "getset_descriptor.__get__"))
  tk : PySem.W.takesIn K (.builtin "object.__class__") = some true
  mo : PySem.W.mroIn K (cT K) (.type "object") = some true
  me : PySem.W.kitOne K (.ref (cT K)) (.ref (cT K)) = some true
section
variable {P : Program} {w : World} {K : PySem.W.Frag} {mg : Str → Option Value} {base : Heap} {f : Addr} {fd : FuncData}
theorem scLen : FnScope ["self"] ["self"] (defScope (inClass (top 41) 6)) := fnScope_by (by decide +kernel)
def spTLen (C : Addr) : Sp := fun vs H Q _ => ∃ x T, vs = [.ref x] ∧ TreeAt C H x T ∧ Q (.int ((P22.leaves T).length : Int)) H
theorem ok_len (m : Mg K mg) (tc : Tc K mg) (F : Mt K "__len__" "Tree.__len__" 41 6 f fd) : FnOk P w K mg base C8.CX0 1 f fd ["self"] (spTLen (cT K)) := by
  have sc := scLen
  refine F.ok sc (fun vs H Q E h => ?_) fun cdv A outer s H vs Q E hr h => ?_
  · obtain ⟨x, T, rfl, _⟩ := h
    rfl
  · obtain ⟨x, T, rfl, tr, q⟩ := h
    refine ⟨_, (pss_one (ps_ret (pe_callB call_len (by rfl) m.len_ boot_len (pa_cons (pe_fld (pv 0) rfl) pa_nil)))), ?_⟩
    obtain ⟨dx, lv, nn, d, lo, ab, hx, hlv, hnn, hd, hlo, hab⟩ := tr
    simp only [L2.start, cxOf, tRet, tAndV, tOrV, tNotV, tCB, tCons, tNil, tVar, tC, tOp, tUn, tTest, tB, tIf, tIfS, tSeq, tAsg, tAnd, tOr, tNot, gName, tNext, tCall, tChain, rI, rI0, rEq, rNe, rGcd, rU, tM1, tM0, tSl, tPart, tNoPart, gTup, gCons, gNil, gSub, tTup, tLst, tPar, L2.rI, List.map_cons, List.map_nil, List.length_cons, List.length_nil, List.cons_append, List.nil_append, List.append_nil, List.getElem?_cons_zero, List.getElem?_cons_succ, List.set_cons_zero, List.set_cons_succ, Option.some.injEq, exists_eq_left, exists_eq_left', exists_eq_right, exists_and_left, exists_and_right, List.cons.injEq, and_true, true_and, V.int.injEq, V.str.injEq, V.bl.injEq, V.ref.injEq, List.replicate, Nat.reduceAdd, Nat.reduceSub, reduceCtorEq, false_and, and_false, if_true, if_false, Bool.false_eq_true, Bool.not_true, Bool.not_false, decide_eq_true_eq, exists_false, or_false, false_or, tFld]
    refine ⟨_, _, _, hx, tc.cls, tc.fld _ (by decide), _, rfl, _, len_T hlv, ?_⟩
    rw [List.length_map]
    exact q
theorem scIter : FnScope ["self"] ["self"] (defScope (inClass (top 41) 7)) := fnScope_by (by decide +kernel)
def spTIter (C : Addr) : Sp := fun vs H Q _ => ∃ x T, vs = [.ref x] ∧ TreeAt C H x T ∧ ∀ nn it, (∃ dx fs, H x = some (.ins C dx fs) ∧ fs.lookup ("nodes" : Str) = some (.ref nn)) → H it = none → Q (.ref it) (upd H it (ItT nn it 0))
theorem ok_iter (m : Mg K mg) (tc : Tc K mg) (F : Mt K "__iter__" "Tree.__iter__" 41 7 f fd) : FnOk P w K mg base C8.CX0 1 f fd ["self"] (spTIter (cT K)) := by
  have sc := scIter
  refine F.ok sc (fun vs H Q E h => ?_) fun cdv A outer s H vs Q E hr h => ?_
  · obtain ⟨x, T, rfl, _⟩ := h
    rfl
  · obtain ⟨x, T, rfl, tr, q⟩ := h
    refine ⟨_, (pss_one (ps_ret (pe_callB call_iterT (by rfl) m.iter_ boot_iter (pa_cons (pe_fld (pv 0) rfl) pa_nil)))), ?_⟩
    obtain ⟨dx, lv, nn, d, lo, ab, hx, hlv, hnn, hd, hlo, hab⟩ := tr
    simp only [L2.start, cxOf, tRet, tAndV, tOrV, tNotV, tCB, tCons, tNil, tVar, tC, tOp, tUn, tTest, tB, tIf, tIfS, tSeq, tAsg, tAnd, tOr, tNot, gName, tNext, tCall, tChain, rI, rI0, rEq, rNe, rGcd, rU, tM1, tM0, tSl, tPart, tNoPart, gTup, gCons, gNil, gSub, tTup, tLst, tPar, L2.rI, List.map_cons, List.map_nil, List.length_cons, List.length_nil, List.cons_append, List.nil_append, List.append_nil, List.getElem?_cons_zero, List.getElem?_cons_succ, List.set_cons_zero, List.set_cons_succ, Option.some.injEq, exists_eq_left, exists_eq_left', exists_eq_right, exists_and_left, exists_and_right, List.cons.injEq, and_true, true_and, V.int.injEq, V.str.injEq, V.bl.injEq, V.ref.injEq, List.replicate, Nat.reduceAdd, Nat.reduceSub, reduceCtorEq, false_and, and_false, if_true, if_false, Bool.false_eq_true, Bool.not_true, Bool.not_false, decide_eq_true_eq, exists_false, or_false, false_or, tFld, rIterT]
    exact ⟨_, _, _, hx, tc.cls, tc.fld _ (by decide), _, rfl, nn, rfl, ⟨_, sqT_of hnn⟩, fun it hit => q nn it ⟨dx, _, hx, rfl⟩ hit⟩
theorem scEq : FnScope ["self", "other"] ["self", "other"] (defScope (inClass (top 41) 5)) := fnScope_by (by decide +kernel)
/-- the two are one tree -/
def OneT (C : Addr) (a b : Addr) (H : Hp) : Prop := ∃ T, TreeAt C H a T ∧ TreeAt C H b T
theorem ok_eq (m : Mg K mg) (tc : Tc K mg) (ti : Ti K) (F : Mt K "__eq__" "Tree.__eq__" 41 5 f fd) : FnOk P w K mg base C8.CX0 1 f fd ["self", "other"] (spEq (OneT (cT K))) := by
  have sc := scEq
  refine F.ok sc (fun vs H Q E h => ?_) fun cdv A outer s H vs Q E hr h => ?_
  · obtain ⟨a, b, rfl, _⟩ := h
    rfl
  · obtain ⟨a, b, rfl, ⟨T, ta, tb⟩, q⟩ := h
    refine ⟨_, (pss_cons (ps_if (pt_not (pt_val (pe_callB call_isi (by rfl) m.isinstance_ boot_isinstance (pa_cons (pv 1) (pa_cons (pe_gc (v := .ref (cT K)) (by rfl) ⟨_, tc.glo, rfl⟩) pa_nil)))))
        (pss_one (ps_ret pe_bl))
        pss_nil)
      (pss_one (ps_ret (pe_cmpR op_eq (pe_fld (pv 0) rfl) (pe_fld (pv 1) rfl) (nomark _))))), ?_⟩
    obtain ⟨dx, lv, nn, d, lo, ab, hx, _⟩ := ta
    obtain ⟨dx2, lv2, nn2, d2, lo2, ab2, hx2, _⟩ := tb
    simp only [L2.start, cxOf, tRet, tAndV, tOrV, tNotV, tCB, tCons, tNil, tVar, tC, tOp, tUn, tTest, tB, tIf, tIfS, tSeq, tAsg, tAnd, tOr, tNot, gName, tNext, tCall, tChain, rI, rI0, rEq, rNe, rGcd, rU, tM1, tM0, tSl, tPart, tNoPart, gTup, gCons, gNil, gSub, tTup, tLst, tPar, L2.rI, List.map_cons, List.map_nil, List.length_cons, List.length_nil, List.cons_append, List.nil_append, List.append_nil, List.getElem?_cons_zero, List.getElem?_cons_succ, List.set_cons_zero, List.set_cons_succ, Option.some.injEq, exists_eq_left, exists_eq_left', exists_eq_right, exists_and_left, exists_and_right, List.cons.injEq, and_true, true_and, V.int.injEq, V.str.injEq, V.bl.injEq, V.ref.injEq, List.replicate, Nat.reduceAdd, Nat.reduceSub, reduceCtorEq, false_and, and_false, if_true, if_false, Bool.false_eq_true, Bool.not_true, Bool.not_false, decide_eq_true_eq, exists_false, or_false, false_or, tFld]
    refine ⟨V.ref b, V.ref (cT K), .ref (cT K), .ref (cT K), true, rfl, .own _, .base (.ins hx2 tc.cls ti.cl ti.hn ti.tk ti.mo), ti.me, ?_⟩
    refine ⟨true, rfl, ?_⟩
    rw [if_neg (by simp)]
    refine ⟨_, _, _, hx, tc.cls, tc.fld _ (by decide), _, rfl, _, _, _, hx2, tc.cls, tc.fld _ (by decide), _, rfl, rfl, ?_⟩
    rw [decide_eq_true rfl]
    exact q H Ext.rfl'
end
end W22

set_option Elab.async false
set_option linter.all false
set_option maxRecDepth 100000
set_option maxHeartbeats 4000000
/-! Z22: _law_bad -/
namespace W22
open PySem PySem.Spec PyProof.Rows L2 Lay
open SX (S S_len S_cat S_tl)
open C8 (Cal pe_c pe_gc fnScope_by E0)
section
variable {P : Program} {w : World} {K : PySem.W.Frag} {mg : Str → Option Value} {base : Heap} {f : Addr} {fd : FuncData}
theorem sc46 : FnScope ["name", "words"] ["name", "words"] (defScope (top 50)) := fnScope_by (by decide +kernel)
/-- what is due of a tree that is none -/
def BadList (H : Hp) (a : Addr) : Prop := ∃ t, H a = some (.lst [.str "BadTree", .ref t, .str "ValueError"]) ∧ H t = some (.tup [.str "why"])
def spBad : Sp := fun vs H Q _ => ∃ l, vs = [.str "BadTree", .ref l] ∧ H l = some (.lst []) ∧ ∀ H' a, Same H H' → H a = none → BadList H' a → Q (.ref a) H'
theorem ok_bad (m : Mg K mg) (F : Fn K "_law_bad" 50 f fd) (g : mg "_law_bad" = some (.ref f)) : Cal P w K mg base 1 "_law_bad" spBad [] := by
  have sc := sc46
  refine calD F g sc (fun _ _ _ _ _ _ us hl => match us, hl with | [_, _], _ => rfl) ?_ fun cdv A outer s H vs Q E hr h => ?_
  · rintro vs H Q E ⟨a, rfl, _⟩
    rfl
  · obtain ⟨l, rfl, hl, q⟩ := h
    refine ⟨_, (pss_cons (ps_if (pt_cmpR op_in_seq (pv 0) (pe_tup (pa_cons pe_str (pa_cons pe_str (pa_cons pe_str (pa_cons pe_str pa_nil))))) rfl)
        (pss_one (ps_ret (pe_op op_cat (pe_op op_cat (pe_lst (pa_cons (pv 0) pa_nil)) (pv 1)) (pe_lst (pa_cons pe_str pa_nil)))))
        pss_nil)
      (pss_one (ps_ret (pe_op op_cat (pe_op op_cat (pe_lst (pa_cons (pv 0) pa_nil)) (pv 1)) (pe_lst (pa_cons (pe_tup (pa_cons pe_str pa_nil)) (pa_cons pe_str pa_nil))))))), ?_⟩
    simp only [L2.start, cxOf, tRet, tAndV, tOrV, tNotV, tCB, tCons, tNil, tVar, tC, tOp, tUn, tTest, tB, tIf, tIfS, tSeq, tAsg, tAnd, tOr, tNot, gName, tNext, tCall, tChain, rI, rI0, rEq, rNe, rGcd, rU, tM1, tM0, tSl, tPart, tNoPart, gTup, gCons, gNil, gSub, tTup, tLst, tPar, L2.rI, List.map_cons, List.map_nil, List.length_cons, List.length_nil, List.cons_append, List.nil_append, List.append_nil, List.getElem?_cons_zero, List.getElem?_cons_succ, List.set_cons_zero, List.set_cons_succ, Option.some.injEq, exists_eq_left, exists_eq_left', exists_eq_right, exists_and_left, exists_and_right, List.cons.injEq, and_true, true_and, V.int.injEq, V.str.injEq, V.bl.injEq, V.ref.injEq, List.replicate, Nat.reduceAdd, Nat.reduceSub, reduceCtorEq, false_and, and_false, if_true, if_false, Bool.false_eq_true, Bool.not_true, Bool.not_false, decide_eq_true_eq, exists_false, or_false, false_or]
    refine ⟨small (by decide), fun p hp => ⟨_, _, rfl, .inr (sqT_of upd_same), rfl, by decide, false, ?_, ?_⟩⟩
    · decide +kernel
    rw [if_neg (by decide)]
    refine ⟨small (by decide), fun a1 h1 => ?_⟩
    have s1 : Same H _ := (same_new (o := .tup [V.str (Str.ofString "BadNumber"), V.str (Str.ofString "Unlike"), V.str (Str.ofString "TooMany"), V.str (Str.ofString "NotOne")]) hp).trans (same_new (o := .lst [V.str (Str.ofString "BadTree")]) h1)
    have hl1 := s1 _ _ hl
    refine ⟨a1, l, _, _, rfl, rfl, upd_same, hl1, by simp [sizeLine_eq], fun a2 h2 => ⟨small (by decide), fun a3 h3 => ⟨small (by decide), fun a4 h4 => ?_⟩⟩⟩
    rw [List.append_nil] at h3 h4 ⊢
    have s2 := s1.trans (same_new (o := .lst [V.str (Str.ofString "BadTree")]) h2)
    have s3 := s2.trans (same_new (o := .tup [V.str (Str.ofString "why")]) h3)
    have s4 := s3.trans (same_new (o := .lst [V.ref a3, V.str (Str.ofString "ValueError")]) h4)
    have k2 := (same_new (o := .lst [V.ref a3, V.str (Str.ofString "ValueError")]) h4) _ _ ((same_new (o := .tup [V.str (Str.ofString "why")]) h3) _ _ (upd_same (H := upd (upd H p (HO.tup [V.str (Str.ofString "BadNumber"), V.str (Str.ofString "Unlike"), V.str (Str.ofString "TooMany"), V.str (Str.ofString "NotOne")])) a1 (HO.lst [V.str (Str.ofString "BadTree")])) (a := a2) (o := .lst [V.str (Str.ofString "BadTree")])))
    refine ⟨a2, a4, _, _, rfl, rfl, k2, upd_same, by simp [sizeLine_eq], fun a5 h5 => ?_⟩
    refine q _ a5 (s4.trans (same_new h5)) (s4.free h5) ⟨a3, upd_same, ?_⟩
    exact (same_new h5) _ _ ((same_new h4) _ _ upd_same)
end
end W22

set_option Elab.async false
set_option linter.all false
set_option maxRecDepth 100000
set_option maxHeartbeats 4000000
/-! AA22: _law_like -/
namespace W22
open PySem PySem.Spec PyProof.Rows L2 Lay
open SX (S S_len S_cat S_tl)
open C8 (Cal pe_c pe_gc fnScope_by E0)
/-- the two are alike: texts, lists and tuples of such, n deep -/
def Lk : Nat → Hp → V → V → Prop
  | 0, _, _, _ => False
  | n + 1, H, x, y => (∃ z, x = .str z ∧ y = .str z) ∨ ∃ a b xs ys, x = .ref a ∧ y = .ref b ∧ ((H a = some (.lst xs) ∧ H b = some (.lst ys)) ∨ (H a = some (.tup xs) ∧ H b = some (.tup ys))) ∧ xs.length = ys.length ∧ xs.length ≤ 100000 ∧
      ∀ (i : Nat) u v, xs[i]? = some u → ys[i]? = some v → Lk n H u v
theorem Lk.same {H H' : Hp} (e : Same H H') : ∀ {n : Nat} {x y : V}, Lk n H x y → Lk n H' x y
  | 0, _, _, h => h
  | n + 1, _, _, h => by
    rcases h with h | ⟨a, b, xs, ys, h1, h2, h3, h4, h5, h6⟩
    · exact .inl h
    · exact .inr ⟨a, b, xs, ys, h1, h2, h3.imp (fun ⟨p, q⟩ => ⟨e _ _ p, e _ _ q⟩) (fun ⟨p, q⟩ => ⟨e _ _ p, e _ _ q⟩), h4, h5, fun i u v g1 g2 => (h6 i u v g1 g2).same e⟩
theorem isaLT {K : PySem.W.Frag} {t : String} (ht : t ∈ kinds) : PySem.W.kitAny K (.type t) [.type "list", .type "tuple"] = some (isaB t "list" || isaB t "tuple") := by
  unfold PySem.W.kitAny
  rw [kit_ty (kit_kinds t ht "list" (by decide))]
  cases isaB t "list" with
  | true => rfl
  | false =>
    unfold PySem.W.kitAny
    rw [kit_ty (kit_kinds t ht "tuple" (by decide))]
    cases isaB t "tuple" <;> rfl
theorem rIsiT_i {K : PySem.W.Frag} {H : Hp} {Q : VK} {x : V} {t : String} {p : Addr} (kd : Kd K H x t) (hp : H p = some (.tup [.ty "list", .ty "tuple"])) (k : Q (.bl (isaB t "list" || isaB t "tuple")) H) : rIsiT K [x, .ref p] H Q :=
  ⟨x, p, _, .type t, [.type "list", .type "tuple"], _, rfl, hp, .cons (.ty _) (.cons (.ty _) .nil), kd.2, isaLT kd.1, k⟩
section
variable {P : Program} {w : World} {K : PySem.W.Frag} {mg : Str → Option Value} {base : Heap} {f : Addr} {fd : FuncData}
theorem sc42 : FnScope ["told", "due", "k", "part"] ["told", "due"] (defScope (top 47)) := fnScope_by (by decide +kernel)
def spLike (n : Nat) : Sp := fun vs H Q _ => ∃ x y, vs = [x, y] ∧ Lk n H x y ∧ ∀ H', Same H H' → Q (.bl true) H'
theorem ok_like_step (m : Mg K mg) (F : Fn K "_law_like" 47 f fd) (g : mg "_law_like" = some (.ref f)) (n : Nat) (c__law_like : Cal P w K mg base n "_law_like" (spLike n) []) : Cal P w K mg base (n + 1) "_law_like" (spLike (n + 1)) [] := by
  have sc := sc42
  refine calD F g sc (fun _ _ _ _ _ _ us hl => match us, hl with | [_, _], _ => rfl) ?_ fun cdv A outer s H vs Q E hr h => ?_
  · rintro vs H Q E ⟨x, y, rfl, _⟩
    rfl
  · obtain ⟨x, y, rfl, lk, q⟩ := h
    refine ⟨_, (pss_cons (ps_if (pt_val (pe_callB call_isiT (by rfl) m.isinstance_ boot_isinstance (pa_cons (pv 1) (pa_cons (pe_tup (pa_cons (pe_bltn (v := .ty "list") (by rfl) m.list_ boot_list rfl) (pa_cons (pe_bltn (v := .ty "tuple") (by rfl) m.tuple_ boot_tuple rfl) pa_nil))) pa_nil))))
        (pss_cons (ps_if ((pw_or (pt_cmpR op_ne (pe_callB call_isB (by rfl) m.isinstance_ boot_isinstance (pa_cons (pv 0) (pa_cons (pe_bltn (v := .ty "list") (by rfl) m.list_ boot_list rfl) pa_nil))) (pe_callB call_isB (by rfl) m.isinstance_ boot_isinstance (pa_cons (pv 1) (pa_cons (pe_bltn (v := .ty "list") (by rfl) m.list_ boot_list rfl) pa_nil))) (nomark _)) (pw_or (pt_cmpR op_ne (pe_callB call_isB (by rfl) m.isinstance_ boot_isinstance (pa_cons (pv 0) (pa_cons (pe_bltn (v := .ty "tuple") (by rfl) m.tuple_ boot_tuple rfl) pa_nil))) (pe_callB call_isB (by rfl) m.isinstance_ boot_isinstance (pa_cons (pv 1) (pa_cons (pe_bltn (v := .ty "tuple") (by rfl) m.tuple_ boot_tuple rfl) pa_nil))) (nomark _)) (pw_or1 (pt_cmpR op_ne (pe_callB call_len (by rfl) m.len_ boot_len (pa_cons (pv 0) pa_nil)) (pe_callB call_len (by rfl) m.len_ boot_len (pa_cons (pv 1) pa_nil)) (nomark _)))))).pt
          (pss_one (ps_ret pe_bl))
          pss_nil)
        (pss_one (ps_ret (pe_cmpR op_notIn_seq pe_bl (pe_lc (own := [("k", 2)]) (g := gName 2) (by rfl) sc.nd (pi_range1 rfl m.range_ (pa_cons (pe_callB call_len (by rfl) m.len_ boot_len (pa_cons (pv 1) pa_nil)) pa_nil)) (blkOk_by (own := [("k", 2)]) (N := ["told", "due", "k", "part"]) (sc := defScope (top 47)) (by decide +kernel)) (fun _ _ _ _ _ => pg_name (i := 2) sc.nd rfl (.inl rfl)) (fun _ _ _ _ _ => pts_nil) (fun _ _ _ _ _ => pe_c c__law_like hr (Nat.le_refl _) (by rfl) (pa_cons (pe_ix (show IxR _ (rIx K) from ix_seq) (pv 0) (pv 2) (fun _ _ => rfl)) (pa_cons (pe_ix (show IxR _ (rIx K) from ix_seq) (pv 1) (pv 2) (fun _ _ => rfl)) pa_nil)))) rfl))))
        pss_nil)
      (pss_cons (ps_if (pt_val (pe_callB call_isB (by rfl) m.isinstance_ boot_isinstance (pa_cons (pv 1) (pa_cons (pe_bltn (v := .ty "dict") (by rfl) m.dict_ boot_dict rfl) pa_nil)))) pss_never pss_nil)
      (pss_cons (ps_if ((pw_or (pt_cmpR op_isN (pv 1) pe_non (nomark _)) (pw_or1 (pt_cmpR op_isN (pv 0) pe_non (nomark _))))).pt
        (pss_one (ps_ret (pe_and (pe_cmpR op_isN (pv 0) pe_non (nomark _)) (pe_one (pe_cmpR op_isN (pv 1) pe_non (nomark _))))))
        pss_nil)
      (pss_cons (ps_if ((pw_or (pt_cmpR op_ne (pe_callB call_isB (by rfl) m.isinstance_ boot_isinstance (pa_cons (pv 0) (pa_cons (pe_bltn (v := .ty "bool") (by rfl) m.bool_ boot_bool rfl) pa_nil))) (pe_callB call_isB (by rfl) m.isinstance_ boot_isinstance (pa_cons (pv 1) (pa_cons (pe_bltn (v := .ty "bool") (by rfl) m.bool_ boot_bool rfl) pa_nil))) (nomark _)) (pw_or1 (pt_cmpR op_ne (pe_callB call_isB (by rfl) m.isinstance_ boot_isinstance (pa_cons (pv 0) (pa_cons (pe_bltn (v := .ty "int") (by rfl) m.int_ boot_int rfl) pa_nil))) (pe_callB call_isB (by rfl) m.isinstance_ boot_isinstance (pa_cons (pv 1) (pa_cons (pe_bltn (v := .ty "int") (by rfl) m.int_ boot_int rfl) pa_nil))) (nomark _))))).pt
        (pss_one (ps_ret pe_bl))
        pss_nil)
      (pss_one (ps_ret (pe_and (pe_cmpR op_eq (pe_callB call_isB (by rfl) m.isinstance_ boot_isinstance (pa_cons (pv 0) (pa_cons (pe_bltn (v := .ty "str") (by rfl) m.str_ boot_str rfl) pa_nil))) (pe_callB call_isB (by rfl) m.isinstance_ boot_isinstance (pa_cons (pv 1) (pa_cons (pe_bltn (v := .ty "str") (by rfl) m.str_ boot_str rfl) pa_nil))) (nomark _)) (pe_one (pe_cmpR op_eq (pv 0) (pv 1) (nomark _)))))))))), ?_⟩
    simp only [L2.start, cxOf, tRet, tAndV, tOrV, tNotV, tCB, tCons, tNil, tVar, tC, tOp, tUn, tTest, tB, tIf, tIfS, tSeq, tAsg, tAnd, tOr, tNot, gName, tNext, tCall, tChain, rI, rI0, rEq, rNe, rGcd, rU, tM1, tM0, tSl, tPart, tNoPart, gTup, gCons, gNil, gSub, tTup, tLst, tPar, L2.rI, List.map_cons, List.map_nil, List.length_cons, List.length_nil, List.cons_append, List.nil_append, List.append_nil, List.getElem?_cons_zero, List.getElem?_cons_succ, List.set_cons_zero, List.set_cons_succ, Option.some.injEq, exists_eq_left, exists_eq_left', exists_eq_right, exists_and_left, exists_and_right, List.cons.injEq, and_true, true_and, V.int.injEq, V.str.injEq, V.bl.injEq, V.ref.injEq, List.replicate, Nat.reduceAdd, Nat.reduceSub, reduceCtorEq, false_and, and_false, if_true, if_false, Bool.false_eq_true, Bool.not_true, Bool.not_false, decide_eq_true_eq, exists_false, or_false, false_or]
    by_cases st : ∃ z, x = .str z ∧ y = .str z
    · obtain ⟨z, rfl, rfl⟩ := st
      refine ⟨small (by decide), fun p hp => ?_⟩
      have s1 := same_new (o := .tup [.ty "list", .ty "tuple"]) hp
      refine rIsiT_i (t := "str") kd_str upd_same ⟨false, rfl, ?_⟩
      rw [if_neg (by decide)]
      refine isi_f (T := "dict") kd_str ?_
      rw [if_neg (by simp), if_neg (by simp)]
      refine rIsB_i kd_str (rIsB_i kd_str ⟨rfl, ?_⟩)
      rw [if_neg (by simp)]
      refine rIsB_i kd_str (rIsB_i kd_str ⟨rfl, ?_⟩)
      rw [if_neg (by simp)]
      refine rIsB_i kd_str (rIsB_i kd_str ⟨rfl, ?_⟩)
      rw [if_pos rfl]
      refine ⟨by simp [scal], ?_⟩
      rw [decide_eq_true rfl]
      exact q _ s1
    · rcases lk with lk | ⟨a, b, xs, ys, rfl, rfl, hab, len, few, items⟩
      · exact absurd lk st
      obtain ⟨t, ht, hT, ka, kb, iab⟩ : ∃ t, t ∈ kinds ∧ (isaB t "list" || isaB t "tuple") = true ∧ Kd K H (.ref a) t ∧ Kd K H (.ref b) t ∧ ((∀ H', Same H H' → LenV K (.ref a) H' xs.length ∧ LenV K (.ref b) H' ys.length) ∧ ∀ (H' : Hp), Same H H' → ∀ (i : Nat) u v (R : VK), xs[i]? = some u → ys[i]? = some v → (R u H' → rIx K (.ref a) (.int (i : Int)) H' R) ∧ (R v H' → rIx K (.ref b) (.int (i : Int)) H' R)) := by
        rcases hab with ⟨ha, hb⟩ | ⟨ha, hb⟩
        · exact ⟨"list", by decide, by decide, kd_lst ha, kd_lst hb, fun H' e => ⟨len_L (SqL.of (e _ _ ha)), len_L (SqL.of (e _ _ hb))⟩, fun H' e i u v R g1 g2 => ⟨fun r => .inl (ixL (SqL.of (e _ _ ha)) i g1 r), fun r => .inl (ixL (SqL.of (e _ _ hb)) i g2 r)⟩⟩
        · exact ⟨"tuple", by decide, by decide, kd_tup ha, kd_tup hb, fun H' e => ⟨len_T (e _ _ ha), len_T (e _ _ hb)⟩, fun H' e i u v R g1 g2 => ⟨fun r => .inr (.inl (ixT (e _ _ ha) i g1 r)), fun r => .inr (.inl (ixT (e _ _ hb) i g2 r))⟩⟩
      obtain ⟨lens, ix⟩ := iab
      refine ⟨small (by decide), fun p hp => ?_⟩
      have s1 := same_new (o := .tup [.ty "list", .ty "tuple"]) hp
      refine rIsiT_i (kb.same s1) upd_same ⟨true, by rw [hT], ?_⟩
      rw [if_pos rfl]
      refine rIsB_i (ka.same s1) (rIsB_i (kb.same s1) ⟨rfl, ?_⟩)
      rw [if_neg (by simp)]
      refine rIsB_i (ka.same s1) (rIsB_i (kb.same s1) ⟨rfl, ?_⟩)
      rw [if_neg (by simp)]
      refine ⟨_, (lens _ s1).1, _, (lens _ s1).2, rfl, ?_⟩
      rw [if_neg (by simp [len])]
      refine lc_range (n := ys.length) (by omega) (fun R k => ⟨_, rfl, _, rfl, _, (lens _ s1).2, k⟩) (fun _ => rfl) fun D hD => ⟨fun i H' => Same (upd H p (.tup [.ty "list", .ty "tuple"])) H' ∧ H' D = some (.lst (List.replicate i (.bl true))), ⟨same_new hD, upd_same⟩, ?_, ?_⟩
      · rintro i H' hi ⟨s2, hDi⟩
        have gx : xs[i]? = some (xs[i]'(by omega)) := List.getElem?_eq_getElem _
        have gy : ys[i]? = some ys[i] := List.getElem?_eq_getElem _
        refine ⟨_, rfl, _, rfl, (ix H' (s1.trans s2) i _ _ _ gx gy).1 ⟨_, rfl, _, rfl, (ix H' (s1.trans s2) i _ _ _ gx gy).2 ⟨_, _, rfl, (items i _ _ gx gy).same (s1.trans s2), fun H3 s3 => ?_⟩⟩⟩
        refine ⟨_, s3 _ _ hDi, by rw [List.length_replicate, sizeLine_eq]; omega, fun c u hc => ?_, ?_⟩
        · have nc : c ≠ D := ne_of_none hc hD
          rw [upd_ne nc]
          exact s3 _ _ (s2 _ _ hc)
        · rw [upd_same, ← List.replicate_succ']
      · rintro H' ⟨s2, hDi⟩
        refine ⟨D, _, rfl, .inl (SqL.of hDi), rfl, by simp [flatV], ?_⟩
        have e : inV (V.bl false) (List.replicate ys.length (V.bl true)) = false := by
          unfold inV
          rw [List.any_eq_false]
          intro v hv
          rw [List.eq_of_mem_replicate hv]
          decide
        rw [e]
        exact q _ (s1.trans s2)
theorem ok_like (m : Mg K mg) (F : Fn K "_law_like" 47 f fd) (g : mg "_law_like" = some (.ref f)) : ∀ n, Cal P w K mg base n "_law_like" (spLike n) []
  | 0 => ⟨f, fd, ["told", "due"], [], ⟨fun vs H Q E ⟨x, y, _, z, _⟩ => z.elim, fun A outer s H args us vs Q E hr he hb hv ⟨x, y, _, z, _⟩ => z.elim⟩, g, F.kp, F.bindsN (fun _ _ _ _ _ _ us hl => match us, hl with | [_, _], _ => rfl), .nil⟩
  | n + 1 => ok_like_step m F g n (ok_like m F g n)
end
end W22

set_option Elab.async false
set_option linter.all false
set_option maxRecDepth 100000
set_option maxHeartbeats 4000000
/-! DD22: _law_barred, _law_name -/
namespace W22
open PySem PySem.Spec PyProof.Rows L2 Lay
open SX (S S_len S_cat S_tl)
open C8 (Cal pe_c pe_gc fnScope_by E0 sl_txt rSlX)
theorem pe_c0 {X : Cx} {k j : Nat} {x : Str} {sp : Sp} {dvs : List V} {p pos : Pos} (c : Cal X.prog X.w X.K X.mg X.base k x sp dvs) (hr : Room j X.A) (hk : k ≤ j) (hg : Gl X x) (hdb : (x == ("__debug__" : Str)) = false := by decide) :
    PE X (.Call (.Name x p) [] [] pos) (tCall sp dvs C8.E0 tNil) := by
  obtain ⟨f, fd, ps, ds, F, hm, kp, b, d⟩ := c.ex
  exact pe_call0 F (hr.mono hk) hg hm kp b d C8.pass0 hdb
theorem Ex.rf {b : Addr} {H : Hp} (g : Bag H b) : Ex b H H := ⟨fun _ _ _ e => e, g, fun l r e => ⟨r, e⟩⟩
theorem Bag.same {b : Addr} {H H' : Hp} (g : Bag H b) (e : Same H H') : Bag H' b := by
  obtain ⟨l0, ns, pos, big, mixed, cnt, left, e1, e2, e3⟩ := g
  exact ⟨l0, ns, pos, big, mixed, cnt, left, e _ _ e1, e _ _ e2, e3⟩
theorem Ex.sm {b : Addr} {H H1 H2 : Hp} (x : Ex b H H1) (s : Same H1 H2) : Ex b H H2 := ⟨fun a o n e => s _ _ (x.keep a o n e), x.bag.same s, fun l r e => by
  obtain ⟨r', e'⟩ := x.list l r e
  exact ⟨r', s _ _ e'⟩⟩
/-- an object that is no part of the bag is written -/
theorem Ex.put {b D : Addr} {H H1 : Hp} {o : HO} (x : Ex b H H1) (g : Bag H b) (hD : H D = none) : Ex b H (upd H1 D o) := by
  obtain ⟨l0, ns0, pos0, big0, mixed0, cnt0, left0, f1, f2, f3⟩ := id g
  have nb : D ≠ b := fun z => by rw [z, f1] at hD; cases hD
  have nl : D ≠ l0 := fun z => by rw [z, f2] at hD; cases hD
  obtain ⟨r', e'⟩ := x.list _ _ f1
  obtain ⟨l1, ns, pos, big, mixed, cnt, left, e1, e2, e3⟩ := x.bag
  have el : l1 = l0 := by
    rw [e'] at e1
    cases e1
    rfl
  subst el
  refine ⟨fun a u n e => ?_, ⟨l1, ns, pos, big, mixed, cnt, left, by rw [upd_ne (Ne.symm nb)]; exact e1, by rw [upd_ne (Ne.symm nl)]; exact e2, e3⟩, fun l r e => ?_⟩
  · rw [upd_ne (ne_of_none e hD)]
    exact x.keep a u n e
  · obtain ⟨r2, e4⟩ := x.list l r e
    exact ⟨r2, by rw [upd_ne (Ne.symm nb)]; exact e4⟩
theorem pick_new {b l : Addr} {xs : List V} {H : Hp} {Q : VK} {E : XK} (bag : Bag H b) (hl : H l = none) (p1 : 0 < xs.length) (p2 : xs.length ≤ 1000) (k : ∀ H' v, Ex b H H' → v ∈ xs → Q v H') : spPick [.ref b, .ref l] (upd H l (.lst xs)) Q E :=
  ⟨b, .ref l, rfl, (bag_new bag hl).2, .inl ⟨l, xs, rfl, upd_same, (bag_new (o := .lst xs) bag hl).1, p1, p2, fun H' v ex hv => k H' v (((Ex.rf bag).sm (same_new hl)).tr ex) hv⟩⟩
theorem pick_txt {b : Addr} {a : List Nat} {H : Hp} {Q : VK} {E : XK} (bag : Bag H b) (p1 : 0 < a.length) (p2 : a.length ≤ 1000) (k : ∀ H' c, Ex b H H' → c ∈ a → Q (.str (S [c])) H') : spPick [.ref b, .str (S a)] H Q E :=
  ⟨b, _, rfl, bag, .inr ⟨a, rfl, p1, p2, k⟩⟩
section
variable {P : Program} {w : World} {K : PySem.W.Frag} {mg : Str → Option Value} {base : Heap} {f : Addr} {fd : FuncData}
theorem sc48 : FnScope ["words"] [] (defScope (top 52)) := fnScope_by (by decide +kernel)
def spBarred : Sp := fun vs H Q _ => vs = [] ∧ ∀ a, H a = none → Q (.ref a) (upd H a (.lst (W22.reserved.map V.str)))
def barS : Str := "book form drawing tree shown hidden seen chance table over of node pivot none weight looks ladder lead family lot done swap left right as"
theorem bar_split : Txt.split barS " " = W22.reserved := by
  have e : barS = S barS.cps.toList := (S_tl barS).symm
  have e32 : (" " : Str) = S [32] := by decide +kernel
  rw [e, e32, SX.split_S (by simp) (by decide)]
  decide +kernel
theorem ok_barred (m : Mg K mg) (F : Fn K "_law_barred" 52 f fd) (g : mg "_law_barred" = some (.ref f)) : Cal P w K mg base 1 "_law_barred" spBarred [] := by
  have sc := sc48
  refine calD F g sc (fun _ _ _ _ _ _ us hl => match us, hl with | [], _ => rfl) ?_ fun cdv A outer s H vs Q E hr h => ?_
  · rintro vs H Q E ⟨rfl, _⟩
    rfl
  · obtain ⟨rfl, q⟩ := h
    refine ⟨_, (pss_cons (ps_set (i := 0) sc.nd rfl (.inl rfl) pe_str)
      (pss_one (ps_ret (pe_split (pe_op op_add_str (pv 0) pe_str) pe_str)))), ?_⟩
    simp only [L2.start, cxOf, tRet, tAndV, tOrV, tNotV, tCB, tCons, tNil, tVar, tC, tOp, tUn, tTest, tB, tIf, tIfS, tSeq, tAsg, tAnd, tOr, tNot, gName, tNext, tCall, tChain, rI, rI0, rEq, rNe, rGcd, rU, tM1, tM0, tSl, tPart, tNoPart, gTup, gCons, gNil, gSub, tTup, tLst, tPar, L2.rI, List.map_cons, List.map_nil, List.length_cons, List.length_nil, List.cons_append, List.nil_append, List.append_nil, List.getElem?_cons_zero, List.getElem?_cons_succ, List.set_cons_zero, List.set_cons_succ, Option.some.injEq, exists_eq_left, exists_eq_left', exists_eq_right, exists_and_left, exists_and_right, List.cons.injEq, and_true, true_and, V.int.injEq, V.str.injEq, V.bl.injEq, V.ref.injEq, List.replicate, Nat.reduceAdd, Nat.reduceSub, reduceCtorEq, false_and, and_false, if_true, if_false, Bool.false_eq_true, Bool.not_true, Bool.not_false, decide_eq_true_eq, exists_false, or_false, false_or]
    have e : Str.ofString "book form drawing tree shown hidden seen chance table over of node pivot none weight" ++ Str.ofString " looks ladder lead family lot done swap left right as" = barS := by decide +kernel
    rw [e]
    refine ⟨small (by decide +kernel), ⟨_, rfl⟩, rfl, small (by decide +kernel), fun p hp => ?_⟩
    rw [bar_split]
    exact q p hp
theorem join_one (ds : List Nat) : Txt.join (Str.ofString "") (ds.map fun d => S [d]) = S ds := by
  have e0 : (Str.ofString "") = S [] := by decide +kernel
  have em : (ds.map fun d => S [d]) = (ds.map fun d => [d]).map S := by rw [List.map_map]; rfl
  rw [e0, em, SX.join_S]
  congr 1
  have : ∀ ps : List (List Nat), TL.joinL [] ps = ps.flatten := by
    intro ps
    induction ps with
    | nil => rfl
    | cons a r ih =>
      cases r with
      | nil => simp [TL.joinL]
      | cons b r =>
        show a ++ ([] ++ TL.joinL [] (b :: r)) = a ++ (b :: r).flatten
        rw [ih]
        rfl
  rw [this]
  induction ds with
  | nil => rfl
  | cons d r ih =>
    rw [List.map_cons, List.flatten_cons, ih (by rw [List.map_map]; rfl)]
    rfl
theorem let_sign : ∀ c ∈ LETL, c ∈ SIGNL := by decide +kernel
theorem res_name : ∀ w ∈ RESL, nameB (w ++ [48]) = true := by decide +kernel
theorem made_name {c : Nat} {ds : List Nat} (hc : c ∈ LETL) (hd : ∀ d ∈ ds, d ∈ SIGNL) (hl : ds.length ≤ 7) (nr : c :: ds ∉ RESL) : nameB (c :: ds) = true := by
  unfold nameB valueB
  have h1 : (1 ≤ (c :: ds).length ∧ (c :: ds).length ≤ 8) := by
    rw [List.length_cons]
    omega
  have h2 : ((c :: ds).all fun c => decide (c ∈ SIGNL)) = true := by
    rw [List.all_eq_true]
    intro d hd2
    rcases List.mem_cons.mp hd2 with rfl | hd2
    · exact decide_eq_true (let_sign _ hc)
    · exact decide_eq_true (hd d hd2)
  rw [decide_eq_true h1, h2, decide_eq_false nr]
  show (true && true && (decide (c ∈ LETL) && !false)) = true
  rw [decide_eq_true hc]
  rfl
theorem sc49 : FnScope ["bag", "size", "signs", "made", "k"] ["bag"] (defScope (top 53)) := fnScope_by (by decide +kernel)
def spName : Sp := fun vs H Q _ => ∃ b, vs = [.ref b] ∧ Bag H b ∧ ∀ H' u, Ex b H H' → nameB u = true → Q (.str (S u)) H'
theorem ok_name (m : Mg K mg) (c__law_of : Cal P w K mg base 2 "_law_of" spPick []) (c__law_barred : Cal P w K mg base 1 "_law_barred" spBarred []) (F : Fn K "_law_name" 53 f fd) (g : mg "_law_name" = some (.ref f)) : Cal P w K mg base 3 "_law_name" spName [] := by
  have sc := sc49
  refine calD F g sc (fun _ _ _ _ _ _ us hl => match us, hl with | [_], _ => rfl) ?_ fun cdv A outer s H vs Q E hr h => ?_
  · rintro vs H Q E ⟨b, rfl, _⟩
    rfl
  · obtain ⟨b, rfl, bag, q⟩ := h
    refine ⟨_, (pss_cons (ps_set (i := 1) sc.nd rfl (.inl rfl) (pe_c c__law_of hr (by decide) (by rfl) (pa_cons (pv 0) (pa_cons (pe_lst (pa_cons pe_int (pa_cons pe_int (pa_cons pe_int (pa_cons pe_int (pa_cons pe_int (pa_cons pe_int (pa_cons pe_int (pa_cons pe_int pa_nil))))))))) pa_nil))))
      (pss_cons (ps_set (i := 2) sc.nd rfl (.inr rfl) pe_str)
      (pss_cons (ps_set (i := 3) sc.nd rfl (.inl rfl) (pe_join pe_str (pe_op op_cat (pe_lst (pa_cons (pe_c c__law_of hr (by decide) (by rfl) (pa_cons (pv 0) (pa_cons (pe_slice sl_txt (pv 2) po_none (po_some pe_int)) pa_nil))) pa_nil)) (pe_lc (own := [("k", 4)]) (g := gName 4) (by rfl) sc.nd (pi_range1 rfl m.range_ (pa_cons (pv 1) pa_nil)) (blkOk_by (own := [("k", 4)]) (N := ["bag", "size", "signs", "made", "k"]) (sc := defScope (top 53)) (by decide +kernel)) (fun _ _ _ _ _ => pg_name (i := 4) sc.nd rfl (.inl rfl)) (fun _ _ _ _ _ => pts_nil) (fun _ _ _ _ _ => pe_c c__law_of hr (by decide) (by rfl) (pa_cons (pv 0) (pa_cons (pv 2) pa_nil)))))))
      (pss_one (ps_ret (pe_ifExp (pt_cmpR op_in_seq (pv 3) (pe_c0 c__law_barred hr (by decide) (by rfl)) rfl) (pe_op op_add_str (pv 3) pe_str) (pv 3))))))), ?_⟩
    simp only [L2.start, cxOf, tRet, tAndV, tOrV, tNotV, tCB, tCons, tNil, tVar, tC, tOp, tUn, tTest, tB, tIf, tIfS, tSeq, tAsg, tAnd, tOr, tNot, gName, tNext, tCall, tChain, rI, rI0, rEq, rNe, rGcd, rU, tM1, tM0, tSl, tPart, tNoPart, gTup, gCons, gNil, gSub, tTup, tLst, tPar, L2.rI, List.map_cons, List.map_nil, List.length_cons, List.length_nil, List.cons_append, List.nil_append, List.append_nil, List.getElem?_cons_zero, List.getElem?_cons_succ, List.set_cons_zero, List.set_cons_succ, Option.some.injEq, exists_eq_left, exists_eq_left', exists_eq_right, exists_and_left, exists_and_right, List.cons.injEq, and_true, true_and, V.int.injEq, V.str.injEq, V.bl.injEq, V.ref.injEq, List.replicate, Nat.reduceAdd, Nat.reduceSub, reduceCtorEq, false_and, and_false, if_true, if_false, Bool.false_eq_true, Bool.not_true, Bool.not_false, decide_eq_true_eq, exists_false, or_false, false_or, rSlX]
    refine ⟨small (by decide), fun l hl => pick_new bag hl (by simp) (by simp) fun H1 v x1 hv => ?_⟩
    obtain ⟨n, rfl, hn⟩ : ∃ n : Nat, v = .int (n : Int) ∧ n ≤ 7 := by
      simp only [List.mem_cons, List.not_mem_nil, or_false] at hv
      rcases hv with rfl | rfl | rfl | rfl | rfl | rfl | rfl | rfl
      · exact ⟨0, rfl, by decide⟩
      · exact ⟨0, rfl, by decide⟩
      · exact ⟨0, rfl, by decide⟩
      · exact ⟨1, rfl, by decide⟩
      · exact ⟨1, rfl, by decide⟩
      · exact ⟨2, rfl, by decide⟩
      · exact ⟨4, rfl, by decide⟩
      · exact ⟨7, rfl, by decide⟩
    have e36 : (Str.ofString "abcdefghijklmnopqrstuvwxyz0123456789") = S SIGNL := (S_tl _).symm
    have e26 : SIGNL.take (Int.toNat 26) = LETL := by decide +kernel
    have l36 : SIGNL.length = 36 := by decide +kernel
    have l26 : LETL.length = 26 := by decide +kernel
    have szl := sizeLine_eq
    rw [e36, SX.slice_to (by decide), e26]
    refine ⟨⟨_, rfl⟩, small (by rw [S_len, l36]; decide), pick_txt x1.bag (by rw [l26]; decide) (by rw [l26]; decide) fun H2 c x2 hc => ⟨small (by decide), fun p hp => ?_⟩⟩
    have x12 := x1.tr x2
    have x3 := x12.sm (same_new (o := .lst [V.str (S [c])]) hp)
    have hp3 := upd_same (H := H2) (a := p) (o := .lst [V.str (S [c])])
    have pb : p ≠ b := (bag_new (o := .lst [V.str (S [c])]) x12.bag hp).1
    generalize upd H2 p (.lst [V.str (S [c])]) = H3 at x3 hp3 ⊢
    refine lc_range (n := n) (by omega) (fun R k => ⟨_, rfl, k⟩) (fun _ => rfl) fun D hD => ⟨fun i H' => Ex b H3 H' ∧ ∃ ds : List Nat, ds.length = i ∧ (∀ d ∈ ds, d ∈ SIGNL) ∧ H' D = some (.lst (ds.map fun d => V.str (S [d]))), ⟨(Ex.rf x3.bag).sm (same_new hD), [], rfl, (fun _ z => by cases z), upd_same⟩, ?_, ?_⟩
    · rintro i H' hi ⟨x4, ds, hl4, hds, hDs⟩
      have Db : D ≠ b := fun z => by
        obtain ⟨l0, ns0, pos0, big0, mixed0, cnt0, left0, f1, _⟩ := x3.bag
        rw [z, f1] at hD
        cases hD
      refine ⟨_, rfl, _, rfl, pick_txt (E := C8.E0) x4.bag (by rw [l36]; decide) (by rw [l36]; decide) fun H5 d x5 hd => ⟨_, x5.keep _ _ Db hDs, by rw [List.length_map, hl4, szl]; omega, (x4.tr x5).put x3.bag hD, ds ++ [d], by rw [List.length_append, hl4]; rfl, fun d' h' => ?_, ?_⟩⟩
      · rcases List.mem_append.mp h' with h' | h'
        · exact hds d' h'
        · rw [List.mem_singleton.mp h']
          exact hd
      · rw [upd_same, List.map_append]
        rfl
    · rintro H' ⟨x4, ds, hl4, hds, hDs⟩
      have hpD := x4.keep _ _ pb hp3
      refine ⟨p, D, _, _, rfl, rfl, hpD, hDs, by rw [List.length_map, hl4, List.length_singleton, szl]; omega, fun r hr2 => ?_⟩
      have x5 := (x3.tr x4).sm (same_new (o := .lst ([V.str (S [c])] ++ ds.map fun d => V.str (S [d]))) hr2)
      have sq : ([V.str (S [c])] ++ ds.map fun d => V.str (S [d])) = ((c :: ds).map fun d => S [d]).map V.str := by
        rw [List.map_map]
        rfl
      refine ⟨r, rfl, (c :: ds).map fun d => S [d], .inl (SqL.of (by rw [upd_same, sq])), ?_, rfl, fun r2 hr3 => ?_⟩
      · have e0 : (Str.ofString "").length = 0 := by decide +kernel
        have e1 : (((c :: ds).map fun d => S [d]).map fun x : Str => x.length) = (c :: ds).map fun _ => 1 := by
          rw [List.map_map]
          exact List.map_congr_left fun d _ => by show (S [d]).length = 1; rw [S_len]; rfl
        rw [e0, e1, Nat.mul_zero, List.map_const', List.sum_replicate_nat, List.length_cons, hl4]
        omega
      · have x6 := x5.sm (same_new (o := .lst (W22.reserved.map V.str)) hr3)
        refine ⟨r2, _, rfl, .inl (SqL.of upd_same), rfl, by decide +kernel, ?_⟩
        rw [if_neg (by decide), join_one, inV_S]
        refine ⟨_, rfl, ?_⟩
        by_cases hm : (c :: ds) ∈ RESL
        · rw [if_pos (show decide ((c :: ds) ∈ W22.reserved.map fun x => x.cps.toList) = true from decide_eq_true hm)]
          have e0 : (Str.ofString "0") = S [48] := by decide +kernel
          rw [e0, S_cat, S_len, S_len]
          refine ⟨small (by rw [List.length_cons, hl4, List.length_singleton]; omega), q _ _ x6 (res_name _ hm)⟩
        · rw [if_neg (show ¬ decide ((c :: ds) ∈ W22.reserved.map fun x => x.cps.toList) = true from fun z => hm (of_decide_eq_true z))]
          exact q _ _ x6 (made_name hc hds (by omega) hm)
end
end W22

set_option Elab.async false
set_option linter.all false
set_option maxRecDepth 100000
set_option maxHeartbeats 4000000
/-! EE22: _law_names -/
namespace W22
open PySem PySem.Spec PyProof.Rows L2 Lay
open SX (S S_len S_cat S_tl)
open C8 (Cal pe_c pe_gc fnScope_by E0)
/-- n with a number behind it -/
def nw (j : Nat) : List Nat := 110 :: (Str.ofString (toString (j : Int))).cps.toList
theorem nw_name : ∀ j < 64, nameB (nw j) = true := by decide +kernel
theorem nw_nodup : ((List.range 64).map nw).Nodup := by decide +kernel
theorem nw_ne {i j : Nat} (hi : i < 64) (hj : j < 64) (h : nw i = nw j) : i = j := by
  have h1 : ((List.range 64).map nw)[i]? = some (nw i) := by rw [List.getElem?_map, List.getElem?_range hi]; rfl
  have h2 : ((List.range 64).map nw)[j]? = some (nw i) := by rw [List.getElem?_map, List.getElem?_range hj, h]; rfl
  have l : ((List.range 64).map nw).length = 64 := by rw [List.length_map, List.length_range]
  obtain ⟨l1, e1⟩ := List.getElem?_eq_some_iff.mp h1
  obtain ⟨l2, e2⟩ := List.getElem?_eq_some_iff.mp h2
  exact (List.getElem_inj nw_nodup).mp (e1.trans e2.symm)
theorem nw_few {n : Nat} {ys : List (List Nat)} (hn : n ≤ 64) (h : ∀ i < n, nw i ∈ ys) : n ≤ ys.length := by
  have nd : ((List.range n).map nw).Nodup := by
    rw [List.nodup_iff_pairwise_ne, List.pairwise_map]
    exact (List.nodup_iff_pairwise_ne.mp List.nodup_range).imp_of_mem fun ha hb ne e => ne (nw_ne (by have := List.mem_range.mp ha; omega) (by have := List.mem_range.mp hb; omega) e)
  have := pigeons nd (ys := ys) fun x hx => by
    obtain ⟨i, hi, rfl⟩ := List.mem_map.mp hx
    exact h i (List.mem_range.mp hi)
  rw [List.length_map, List.length_range] at this
  exact this
theorem inV_words (u : List Nat) : ∀ ws : List P22.Wd, inV (V.str (S u)) (wV ws) = decide (u ∈ ws)
  | [] => rfl
  | w :: r => by
    have ih := inV_words u r
    unfold inV at ih ⊢
    have e1 : wV (w :: r) = V.str (S w) :: wV r := rfl
    rw [e1, List.any_cons, ih]
    have e : eqV (V.str (S w)) (V.str (S u)) = decide (u = w) := by
      show (S w == S u) = _
      rw [SX.S_beq_eq, Bool.eq_iff_iff, decide_eq_true_eq, decide_eq_true_eq]
      exact ⟨Eq.symm, Eq.symm⟩
    rw [e, Bool.eq_iff_iff, Bool.or_eq_true, decide_eq_true_eq, decide_eq_true_eq, decide_eq_true_eq, List.mem_cons]
theorem rin_words {K : PySem.W.Frag} {H : Hp} {t : Addr} {u : List Nat} {ws : List P22.Wd} {R : VK} (h : H t = some (wordsV ws)) (k : R (.bl (!decide (u ∈ ws))) H) : rIn K true (.str (S u)) (.ref t) H R := by
  refine ⟨t, _, rfl, .inl (SqL.of h), rfl, ?_, ?_⟩
  · rw [List.all_eq_true]
    intro v hv
    obtain ⟨w, _, rfl⟩ := List.mem_map.mp hv
    rfl
  · rw [if_pos rfl, inV_words]
    exact k
section
variable {P : Program} {w : World} {K : PySem.W.Frag} {mg : Str → Option Value} {base : Heap} {f : Addr} {fd : FuncData}
theorem sc50 : FnScope ["bag", "many", "taken", "made", "k", "word", "j"] ["bag", "many", "taken"] (defScope (top 54)) := fnScope_by (by decide +kernel)
def spNamesL : Sp := fun vs H Q _ => ∃ (b t : Addr) (many : Nat) (taken : List P22.Wd), vs = [.ref b, .int (many : Int), .ref t] ∧ Bag H b ∧ H t = some (wordsV taken) ∧ t ≠ b ∧ many ≤ 20 ∧ taken.length ≤ 21 ∧
  ∀ H' a ws, Ex b H H' → H a = none → H' a = some (wordsV ws) → ws.length = many → ws.Nodup → (∀ u ∈ ws, nameB u = true ∧ u ∉ taken) → Q (.ref a) H'
theorem ok_names (m : Mg K mg) (dk : DigK K) (c__law_name : Cal P w K mg base 3 "_law_name" spName []) (F : Fn K "_law_names" 54 f fd) (g : mg "_law_names" = some (.ref f)) : Cal P w K mg base 4 "_law_names" spNamesL [] := by
  have sc := sc50
  refine calD F g sc (fun _ _ _ _ _ _ us hl => match us, hl with | [_, _, _], _ => rfl) ?_ fun cdv A outer s H vs Q E hr h => ?_
  · rintro vs H Q E ⟨b, t, many, taken, rfl, _⟩
    rfl
  · obtain ⟨b, t, many, taken, rfl, bag, ht, tb, mx, tx, q⟩ := h
    refine ⟨_, (pss_cons (ps_set (i := 3) sc.nd rfl (.inl rfl) (pe_lst pa_nil))
      (pss_cons (ps_for pown rfl (pi_range1 rfl m.range_ (pa_cons (pv 1) pa_nil)) (pg_name (i := 4) sc.nd rfl (.inl rfl))
        (pss_cons (ps_set (i := 5) sc.nd rfl (.inl rfl) (pe_c c__law_name hr (by decide) (by rfl) (pa_cons (pv 0) pa_nil)))
        (pss_cons (ps_for pown rfl (pi_range1 rfl m.range_ (pa_cons (pe_op op_add (pe_op op_add (pv 1) (pe_callB call_len (by rfl) m.len_ boot_len (pa_cons (pv 2) pa_nil))) pe_int) pa_nil)) (pg_name (i := 6) sc.nd rfl (.inl rfl))
          (pss_cons (ps_if ((pw_and (pt_cmpR op_notIn_seq (pv 5) (pv 2) rfl) (pw_and1 (pt_cmpR op_notIn_seq (pv 5) (pv 3) rfl)))).pt
            (pss_one ps_break)
            pss_nil)
          (pss_one (ps_set (i := 5) sc.nd rfl (.inl rfl) (pe_op op_add_str pe_str (pe_callTy (call_strBig rfl dk) (by rfl) m.str_ boot_str (pa_cons (pv 6) pa_nil)))))))
        (pss_one (ps_expr (pe_bm PySem.F.plainAttrs_list PySem.F.slot_list_append PySem.F.type_list_append mt_append (pv 3) (pa_cons (pv 5) pa_nil)))))))
      (pss_one (ps_ret (pv 3))))), ?_⟩
    have szl := sizeLine_eq
    simp only [L2.start, cxOf, tRet, tAndV, tOrV, tNotV, tCB, tCons, tNil, tVar, tC, tOp, tUn, tTest, tB, tSeq, tAsg, tNot, gName, tNext, tCall, tChain, rI, rI0, rEq, rNe, rGcd, rU, tM1, tM0, tSl, tPart, tNoPart, gTup, gCons, gNil, gSub, tTup, tLst, tPar, L2.rI, List.map_cons, List.map_nil, List.length_cons, List.length_nil, List.cons_append, List.nil_append, List.append_nil, List.getElem?_cons_zero, List.getElem?_cons_succ, List.set_cons_zero, List.set_cons_succ, Option.some.injEq, exists_eq_left, exists_eq_left', exists_eq_right, exists_and_left, exists_and_right, List.cons.injEq, and_true, true_and, V.int.injEq, V.str.injEq, V.bl.injEq, V.ref.injEq, List.replicate, Nat.reduceAdd, Nat.reduceSub, reduceCtorEq, false_and, and_false, if_true, if_false, Bool.false_eq_true, Bool.not_true, Bool.not_false, decide_eq_true_eq, exists_false, or_false, false_or]
    refine ⟨small (by decide), fun p hp => ?_⟩
    refine for_range_at (n := many) (by omega) (fun R k => ⟨_, rfl, k⟩) ⟨fun k σ' H' => ∃ (ws : List P22.Wd) (y4 y5 y6 : Option V), σ' = [some (.ref b), some (.int (many : Int)), some (.ref t), some (.ref p), y4, y5, y6] ∧ Ex b H H' ∧ ws.length = k ∧ ws.Nodup ∧ (∀ u ∈ ws, nameB u = true ∧ u ∉ taken) ∧ H' p = some (wordsV ws),
      ⟨[], none, none, none, rfl, (Ex.rf bag).sm (same_new hp), rfl, List.nodup_nil, (fun u z => by cases z), upd_same⟩, ?_, ?_⟩
    · rintro k σ' H' hk ⟨ws, y4, y5, y6, rfl, x1, lw, nd, good, hw⟩
      simp only [L2.start, cxOf, tRet, tAndV, tOrV, tNotV, tCB, tCons, tNil, tVar, tC, tOp, tUn, tTest, tB, tSeq, tAsg, tNot, gName, tNext, tCall, tChain, rI, rI0, rEq, rNe, rGcd, rU, tM1, tM0, tSl, tPart, tNoPart, gTup, gCons, gNil, gSub, tTup, tLst, tPar, L2.rI, List.map_cons, List.map_nil, List.length_cons, List.length_nil, List.cons_append, List.nil_append, List.append_nil, List.getElem?_cons_zero, List.getElem?_cons_succ, List.set_cons_zero, List.set_cons_succ, Option.some.injEq, exists_eq_left, exists_eq_left', exists_eq_right, exists_and_left, exists_and_right, List.cons.injEq, and_true, true_and, V.int.injEq, V.str.injEq, V.bl.injEq, V.ref.injEq, List.replicate, Nat.reduceAdd, Nat.reduceSub, reduceCtorEq, false_and, and_false, if_true, if_false, Bool.false_eq_true, Bool.not_true, Bool.not_false, decide_eq_true_eq, exists_false, or_false, false_or]
      have pb : p ≠ b := fun z => by
        obtain ⟨l0, ns0, pos0, big0, mixed0, cnt0, left0, f1, _⟩ := bag
        rw [z, f1] at hp
        cases hp
      refine ⟨b, rfl, x1.bag, fun H1 u0 x2 hu0 => ?_⟩
      have x12 := x1.tr x2
      have ht1 := x12.keep t _ tb ht
      have hw1 := x2.keep p _ pb hw
      have ltk : LenV K (.ref t) H1 taken.length := by
        have := len_L (K := K) (SqL.of ht1)
        rwa [List.length_map] at this
      refine for_range_at (n := many + taken.length + 1) (by omega) (fun R k => ?_) ⟨fun j σ' H' => H' = H1 ∧ ∃ (u : P22.Wd) (y6 : Option V), σ' = [some (.ref b), some (.int (many : Int)), some (.ref t), some (.ref p), some (.int (k : Int)), some (.str (S u)), y6] ∧ nameB u = true ∧ (∀ i, i + 1 < j → nw i ∈ taken ++ ws) ∧ ∀ i, j = i + 1 → u = nw i,
        ⟨rfl, u0, y6, rfl, hu0, (fun i z => by omega), fun i z => by omega⟩, ?_, ?_⟩
      · simp only [L2.start, cxOf, tRet, tAndV, tOrV, tNotV, tCB, tCons, tNil, tVar, tC, tOp, tUn, tTest, tB, tIf, tIfS, tSeq, tAsg, tAnd, tOr, tNot, gName, tNext, tCall, tChain, rI, rI0, rEq, rNe, rGcd, rU, tM1, tM0, tSl, tPart, tNoPart, gTup, gCons, gNil, gSub, tTup, tLst, tPar, L2.rI, List.map_cons, List.map_nil, List.length_cons, List.length_nil, List.cons_append, List.nil_append, List.append_nil, List.getElem?_cons_zero, List.getElem?_cons_succ, List.set_cons_zero, List.set_cons_succ, Option.some.injEq, exists_eq_left, exists_eq_left', exists_eq_right, exists_and_left, exists_and_right, List.cons.injEq, and_true, true_and, V.int.injEq, V.str.injEq, V.bl.injEq, V.ref.injEq, List.replicate, Nat.reduceAdd, Nat.reduceSub, reduceCtorEq, false_and, and_false, if_true, if_false, Bool.false_eq_true, Bool.not_true, Bool.not_false, decide_eq_true_eq, exists_false, or_false, false_or]
        refine ⟨_, ltk, ?_⟩
        have e : ((many : Int) + (taken.length : Int) + 1) = ((many + taken.length + 1 : Nat) : Int) := by omega
        rw [e]
        exact k
      · rintro j σ' H' hj ⟨rfl, u, y6, rfl, hu, fol, cur⟩
        simp only [L2.start, cxOf, tRet, tAndV, tOrV, tNotV, tCB, tCons, tNil, tVar, tC, tOp, tUn, tTest, tB, tIf, tIfS, tSeq, tAsg, tAnd, tOr, tNot, gName, tNext, tCall, tChain, rI, rI0, rEq, rNe, rGcd, rU, tM1, tM0, tSl, tPart, tNoPart, gTup, gCons, gNil, gSub, tTup, tLst, tPar, L2.rI, List.map_cons, List.map_nil, List.length_cons, List.length_nil, List.cons_append, List.nil_append, List.append_nil, List.getElem?_cons_zero, List.getElem?_cons_succ, List.set_cons_zero, List.set_cons_succ, Option.some.injEq, exists_eq_left, exists_eq_left', exists_eq_right, exists_and_left, exists_and_right, List.cons.injEq, and_true, true_and, V.int.injEq, V.str.injEq, V.bl.injEq, V.ref.injEq, List.replicate, Nat.reduceAdd, Nat.reduceSub, reduceCtorEq, false_and, and_false, if_true, if_false, Bool.false_eq_true, Bool.not_true, Bool.not_false, decide_eq_true_eq, exists_false, or_false, false_or]
        have next : u ∈ taken ++ ws → (nw j ∈ taken ++ ws → True) → (∀ i, i + 1 < j + 1 → nw i ∈ taken ++ ws) := fun hm _ i hi => by
          by_cases z : i + 1 < j
          · exact fol i z
          · have e : j = i + 1 := by omega
            rw [← cur i e]
            exact hm
        have go : u ∈ taken ++ ws → Lay.Short (j : Int) ∧ (S [110]).length + (Str.ofString (toString (j : Int))).length ≤ sizeLine ∧ (∀ i, i + 1 < j + 1 → nw i ∈ taken ++ ws) ∧ nameB (nw j) = true ∧ S [110] ++ Str.ofString (toString (j : Int)) = S (nw j) := fun hm => by
          have nj := nw_name j (by omega)
          have lj := name_len nj
          refine ⟨?_, ?_, next hm fun _ => trivial, nj, ?_⟩
          · unfold Lay.Short
            exact Nat.lt_of_lt_of_le (show ((j : Int)).natAbs < 100 by omega) (Nat.le_trans (by decide : 100 ≤ 10 ^ 2) (Nat.pow_le_pow_right (by decide) (by decide)))
          · have e2 : (Str.ofString (toString (j : Int))).length = (nw j).length - 1 := rfl
            rw [e2, S_len, szl]
            simp only [List.length_singleton]
            omega
          · have e2 : Str.ofString (toString (j : Int)) = S (Str.ofString (toString (j : Int))).cps.toList := (S_tl _).symm
            rw [e2, S_cat]
            rfl
        have en : (Str.ofString "n") = S [110] := by decide +kernel
        refine rin_words ht1 ⟨_, rfl, ?_⟩
        by_cases a1 : u ∈ taken
        · rw [if_neg (by simp [a1])]
          obtain ⟨g1, g2, g3, g4, g5⟩ := go (List.mem_append_left _ a1)
          simp only [L2.start, cxOf, tRet, tAndV, tOrV, tNotV, tCB, tCons, tNil, tVar, tC, tOp, tUn, tTest, tB, tIf, tIfS, tSeq, tAsg, tAnd, tOr, tNot, gName, tNext, tCall, tChain, rI, rI0, rEq, rNe, rGcd, rU, tM1, tM0, tSl, tPart, tNoPart, gTup, gCons, gNil, gSub, tTup, tLst, tPar, L2.rI, List.map_cons, List.map_nil, List.length_cons, List.length_nil, List.cons_append, List.nil_append, List.append_nil, List.getElem?_cons_zero, List.getElem?_cons_succ, List.set_cons_zero, List.set_cons_succ, Option.some.injEq, exists_eq_left, exists_eq_left', exists_eq_right, exists_and_left, exists_and_right, List.cons.injEq, and_true, true_and, V.int.injEq, V.str.injEq, V.bl.injEq, V.ref.injEq, List.replicate, Nat.reduceAdd, Nat.reduceSub, reduceCtorEq, false_and, and_false, if_true, if_false, Bool.false_eq_true, Bool.not_true, Bool.not_false, decide_eq_true_eq, exists_false, or_false, false_or]
          rw [en]
          refine ⟨g1, g2, nw j, ⟨g5, _, rfl⟩, g4, g3, fun i e => ?_⟩
          obtain rfl : j = i := by omega
          rfl
        · rw [if_pos (by simp [a1])]
          refine rin_words hw1 ⟨_, rfl, ?_⟩
          by_cases a2 : u ∈ ws
          · rw [if_neg (by simp [a2])]
            obtain ⟨g1, g2, g3, g4, g5⟩ := go (List.mem_append_right _ a2)
            simp only [L2.start, cxOf, tRet, tAndV, tOrV, tNotV, tCB, tCons, tNil, tVar, tC, tOp, tUn, tTest, tB, tIf, tIfS, tSeq, tAsg, tAnd, tOr, tNot, gName, tNext, tCall, tChain, rI, rI0, rEq, rNe, rGcd, rU, tM1, tM0, tSl, tPart, tNoPart, gTup, gCons, gNil, gSub, tTup, tLst, tPar, L2.rI, List.map_cons, List.map_nil, List.length_cons, List.length_nil, List.cons_append, List.nil_append, List.append_nil, List.getElem?_cons_zero, List.getElem?_cons_succ, List.set_cons_zero, List.set_cons_succ, Option.some.injEq, exists_eq_left, exists_eq_left', exists_eq_right, exists_and_left, exists_and_right, List.cons.injEq, and_true, true_and, V.int.injEq, V.str.injEq, V.bl.injEq, V.ref.injEq, List.replicate, Nat.reduceAdd, Nat.reduceSub, reduceCtorEq, false_and, and_false, if_true, if_false, Bool.false_eq_true, Bool.not_true, Bool.not_false, decide_eq_true_eq, exists_false, or_false, false_or]
            rw [en]
            refine ⟨g1, g2, nw j, ⟨g5, _, rfl⟩, g4, g3, fun i e => ?_⟩
            obtain rfl : j = i := by omega
            rfl
          · rw [if_pos (by simp [a2])]
            simp only [L2.start, cxOf, tRet, tAndV, tOrV, tNotV, tCB, tCons, tNil, tVar, tC, tOp, tUn, tTest, tB, tIf, tIfS, tSeq, tAsg, tAnd, tOr, tNot, gName, tNext, tCall, tChain, rI, rI0, rEq, rNe, rGcd, rU, tM1, tM0, tSl, tPart, tNoPart, gTup, gCons, gNil, gSub, tTup, tLst, tPar, L2.rI, List.map_cons, List.map_nil, List.length_cons, List.length_nil, List.cons_append, List.nil_append, List.append_nil, List.getElem?_cons_zero, List.getElem?_cons_succ, List.set_cons_zero, List.set_cons_succ, Option.some.injEq, exists_eq_left, exists_eq_left', exists_eq_right, exists_and_left, exists_and_right, List.cons.injEq, and_true, true_and, V.int.injEq, V.str.injEq, V.bl.injEq, V.ref.injEq, List.replicate, Nat.reduceAdd, Nat.reduceSub, reduceCtorEq, false_and, and_false, if_true, if_false, Bool.false_eq_true, Bool.not_true, Bool.not_false, decide_eq_true_eq, exists_false, or_false, false_or, tBreak, tDrop, tBM, rAppend]
            refine ⟨.inl ⟨rfl, _, SqL.of hw1⟩, _, hw1, by rw [List.length_map, szl]; omega, ⟨_, rfl⟩, x12.put bag hp, ws ++ [u], by rw [List.length_append, lw]; rfl, ?_, ?_, ?_⟩
            · rw [List.nodup_append]
              exact ⟨nd, by simp, fun a ha c hc e => a2 (by rw [← List.mem_singleton.mp hc, ← e]; exact ha)⟩
            · intro v hv
              rcases List.mem_append.mp hv with hv | hv
              · exact good v hv
              · rw [List.mem_singleton.mp hv]
                exact ⟨hu, a1⟩
            · rw [upd_same, wordsV, List.map_append]
              rfl
      · rintro σ' H' ⟨rfl, u, y6, rfl, hu, fol, cur⟩
        exfalso
        have h1 := nw_few (n := many + taken.length) (ys := taken ++ ws) (by omega) fun i hi => fol i (by omega)
        rw [List.length_append] at h1
        omega
    · rintro σ' H' ⟨ws, y4, y5, y6, rfl, x1, lw, nd, good, hw⟩
      simp only [L2.start, cxOf, tRet, tAndV, tOrV, tNotV, tCB, tCons, tNil, tVar, tC, tOp, tUn, tTest, tB, tIf, tIfS, tSeq, tAsg, tAnd, tOr, tNot, gName, tNext, tCall, tChain, rI, rI0, rEq, rNe, rGcd, rU, tM1, tM0, tSl, tPart, tNoPart, gTup, gCons, gNil, gSub, tTup, tLst, tPar, L2.rI, List.map_cons, List.map_nil, List.length_cons, List.length_nil, List.cons_append, List.nil_append, List.append_nil, List.getElem?_cons_zero, List.getElem?_cons_succ, List.set_cons_zero, List.set_cons_succ, Option.some.injEq, exists_eq_left, exists_eq_left', exists_eq_right, exists_and_left, exists_and_right, List.cons.injEq, and_true, true_and, V.int.injEq, V.str.injEq, V.bl.injEq, V.ref.injEq, List.replicate, Nat.reduceAdd, Nat.reduceSub, reduceCtorEq, false_and, and_false, if_true, if_false, Bool.false_eq_true, Bool.not_true, Bool.not_false, decide_eq_true_eq, exists_false, or_false, false_or]
      exact q H' p ws x1 hp hw lw nd good
end
end W22

set_option Elab.async false
set_option linter.all false
set_option maxRecDepth 100000
set_option maxHeartbeats 4000000
/-! GG22: _law_strange_right -/
namespace W22
open PySem PySem.Spec PyProof.Rows L2 Lay LamX
open SX (S S_len S_cat S_tl)
open C8 (Cal Mak pe_c pe_mk pe_gc fnScope_by E0)
theorem Fine.sub {T n : P22.Tr} (h : Fine T) (hn : n ∈ P22.nodes T) : Fine n := by
  refine ⟨fun w hw => h.good w (P22.mem_leaves hn w hw), ?_, Nat.le_trans (P22.sub_len hn) h.few⟩
  have key : ∀ {t n : P22.Tr}, (P22.leaves t).Nodup → n ∈ P22.nodes t → (P22.leaves n).Nodup := by
    intro t
    induction t with
    | leaf w =>
      intro n nd hn
      rw [List.mem_singleton.mp hn]
      exact nd
    | node l r il ir =>
      intro n nd hn
      have nd2 : (P22.leaves l ++ P22.leaves r).Nodup := nd
      rcases List.mem_append.mp hn with z | z
      · rcases List.mem_append.mp z with z | z
        · exact il (List.nodup_append.mp nd2).1 z
        · exact ir (List.nodup_append.mp nd2).2.1 z
      · rw [List.mem_singleton.mp z]
        exact nd
  exact key h.nd hn
theorem depth_le : ∀ t : P22.Tr, depth t + 1 ≤ (P22.leaves t).length
  | .leaf w => Nat.le_refl _
  | .node l r => by
    have h1 := depth_le l
    have h2 := depth_le r
    have h3 : 1 ≤ (P22.leaves l).length := P22.leaves_len (l := l) (r := r)
    have h4 : 1 ≤ (P22.leaves r).length := P22.leaves_len (l := r) (r := l)
    simp only [depth, P22.leaves, List.length_append]
    omega
theorem Fine.dep {T : P22.Tr} (h : Fine T) : depth T ≤ 23 := by
  have := depth_le T
  have := h.few
  omega
theorem Fine.nodes {T : P22.Tr} (h : Fine T) : (P22.nodes T).length ≤ 47 := by
  have := P22.nodes_len T
  have := h.few
  omega
theorem Fine.toks {T : P22.Tr} (h : Fine T) : (P22.toks T).length ≤ 70 := by
  have := P22.toks_len T
  have := h.few
  omega
theorem sign_ok : ∀ c ∈ SIGNL, c < 0x110000 := by decide +kernel
theorem name_ok {u : List Nat} (h : nameB u = true) : PyData.strOk (S u) = true := by
  unfold nameB valueB at h
  simp only [Bool.and_eq_true, decide_eq_true_eq, List.all_eq_true] at h
  unfold PyData.strOk
  rw [Array.all_eq_true']
  intro c hc
  exact decide_eq_true (sign_ok c (h.1.2 c (by simpa using hc)))
/-- words that turn_tree can do with -/
structure Tame (ws : List P22.Wd) : Prop where
  few : ws.length ≤ 200
  each : ∀ u ∈ ws, u.length ≤ 10 ∧ PyData.strOk (S u) = true
theorem tame_toks {n : P22.Tr} (h : Fine n) : ∀ u ∈ P22.toks n, u.length ≤ 10 ∧ PyData.strOk (S u) = true := by
  have key : ∀ {t : P22.Tr}, (∀ w ∈ P22.leaves t, nameB w = true) → ∀ u ∈ P22.toks t, u.length ≤ 10 ∧ PyData.strOk (S u) = true := by
    intro t
    induction t with
    | leaf w =>
      intro hg u hu
      rw [List.mem_singleton.mp hu]
      have := name_len (hg w (List.mem_singleton.mpr rfl))
      exact ⟨by omega, name_ok (hg w (List.mem_singleton.mpr rfl))⟩
    | node l r il ir =>
      intro hg u hu
      rcases List.mem_cons.mp hu with rfl | hu
      · exact ⟨by decide, by decide +kernel⟩
      · rcases List.mem_append.mp hu with hu | hu
        · exact il (fun w hw => hg w (List.mem_append_left _ hw)) u hu
        · rcases List.mem_append.mp hu with hu | hu
          · exact ir (fun w hw => hg w (List.mem_append_right _ hw)) u hu
          · rw [List.mem_singleton.mp hu]
            exact ⟨by decide, by decide +kernel⟩
  exact key fun w hw => (h.good w hw).1
theorem Tame.sum {ws : List P22.Wd} (h : ∀ u ∈ ws, u.length ≤ 10 ∧ PyData.strOk (S u) = true) : (ws.map List.length).sum ≤ 10 * ws.length := by
  induction ws with
  | nil => exact Nat.le_refl _
  | cons w r ih =>
    have h1 := (h w List.mem_cons_self).1
    have h2 := ih fun u hu => h u (List.mem_cons_of_mem _ hu)
    rw [List.map_cons, List.sum_cons, List.length_cons]
    omega
/-- a text that is no deed -/
structure BadOrd (x : List Nat) : Prop where
  len : x.length ≤ 3000
  tame : Tame (P22.words x)
  bad : P22.words x = [] ∨ ∃ wd r, P22.words x = wd :: r ∧ (¬ DeedW wd ∨ P22.namesOf nameB r = none)
theorem sig_name {u : List Nat} (h : u ≠ []) (k : ∀ c ∈ u, c ≠ 32 ∧ c ≠ 40 ∧ c ≠ 41) : P22.Name u := ⟨h, k⟩
theorem const_name {z : Str} (h : (z.cps.toList ≠ [] ∧ ∀ c ∈ z.cps.toList, c ≠ 32 ∧ c ≠ 40 ∧ c ≠ 41)) : P22.Name z.cps.toList := ⟨h.1, h.2⟩
section
variable {n : P22.Tr}
/-- a word, one space, the words of y -/
theorem bad_front {u y : List Nat} (hu : P22.Name u) (lu : u.length ≤ 10) (ou : PyData.strOk (S u) = true) (ly : y.length ≤ 1000) (few : (P22.words y).length ≤ 199) (ty : ∀ v ∈ P22.words y, v.length ≤ 10 ∧ PyData.strOk (S v) = true) (b : ¬ DeedW u ∨ P22.namesOf nameB (P22.words y) = none) : BadOrd (u ++ 32 :: y) := by
  have e := P22.words_front1 (x := y) hu
  refine ⟨by rw [List.length_append, List.length_cons]; omega, ⟨by rw [e, List.length_cons]; omega, fun v hv => ?_⟩, .inr ⟨u, _, e, b⟩⟩
  rw [e] at hv
  rcases List.mem_cons.mp hv with rfl | hv
  · exact ⟨lu, ou⟩
  · exact ty v hv
theorem bad_alone (h : Fine n) : BadOrd (P22.spell n) := by
  have e := P22.words_spell h.ok
  have l := h.len
  have k := h.toks
  refine ⟨by omega, ⟨by rw [e]; omega, by rw [e]; exact tame_toks h⟩, .inr ?_⟩
  rw [e]
  cases n with
  | leaf w =>
    refine ⟨w, [], rfl, .inr P22.names_nil⟩
  | node l r =>
    refine ⟨[40], _, rfl, .inl fun z => ?_⟩
    rcases z with z | z | z
    · exact absurd z (by decide +kernel)
    · exact absurd z (by decide +kernel)
    · exact absurd z (by decide +kernel)
abbrev cW (z : Str) : List Nat := z.cps.toList
/-- the strange orders -/
def ords (x : List Nat) : List (List Nat) := [[], cW "swap", cW "turn" ++ 32 :: x, x, cW "swap" ++ 32 :: (x ++ 32 :: x), cW "swap" ++ 32 :: (40 :: x), cW "Right" ++ 32 :: x, cW "left" ++ 32 :: (x ++ [41]), cW "right" ++ 32 :: [40, 41]]
theorem nm_swap : P22.Name (cW "swap") := const_name (by decide +kernel)
theorem nm_turn : P22.Name (cW "turn") := const_name (by decide +kernel)
theorem nm_Right : P22.Name (cW "Right") := const_name (by decide +kernel)
theorem nm_left : P22.Name (cW "left") := const_name (by decide +kernel)
theorem nm_right : P22.Name (cW "right") := const_name (by decide +kernel)
theorem not_deed {z : Str} (h : z ≠ ("swap" : Str) ∧ z ≠ ("left" : Str) ∧ z ≠ ("right" : Str)) : ¬ DeedW (cW z) := fun d => by
  have e : S (cW z) = z := S_tl z
  rcases d with d | d | d
  · exact h.1 (e.symm.trans d)
  · exact h.2.1 (e.symm.trans d)
  · exact h.2.2 (e.symm.trans d)
theorem ords_bad {n : P22.Tr} (h : Fine n) : ∀ y ∈ ords (P22.spell n), BadOrd y := by
  have e := P22.words_spell h.ok
  have l := h.len
  have k := h.toks
  have tt := tame_toks h
  intro y hy
  simp only [ords, List.mem_cons, List.not_mem_nil, or_false] at hy
  rcases hy with rfl | rfl | rfl | rfl | rfl | rfl | rfl | rfl | rfl
  · exact ⟨by decide, ⟨by decide, fun u hu => by cases hu⟩, .inl rfl⟩
  · have e1 : P22.words (cW "swap") = [cW "swap"] := by decide +kernel
    refine ⟨by decide +kernel, ⟨by rw [e1]; decide, fun u hu => ?_⟩, .inr ⟨_, [], e1, .inr P22.names_nil⟩⟩
    rw [e1] at hu
    rw [List.mem_singleton.mp hu]
    exact ⟨by decide +kernel, by decide +kernel⟩
  · exact bad_front nm_turn (by decide +kernel) (by decide +kernel) (by omega) (by rw [e]; omega) (by rw [e]; exact tt) (.inl (not_deed (by decide +kernel)))
  · exact bad_alone h
  · have e2 : P22.words (P22.spell n ++ 32 :: P22.spell n) = P22.toks n ++ P22.toks n := by rw [P22.words_two h.ok, e]
    refine bad_front nm_swap (by decide +kernel) (by decide +kernel) (by rw [List.length_append, List.length_cons]; omega) (by rw [e2, List.length_append]; omega) (by rw [e2]; exact fun v hv => (List.mem_append.mp hv).elim (tt v) (tt v)) (.inr ?_)
    rw [e2]
    obtain ⟨w, r, ew⟩ := P22.toks_ne n
    have := P22.names_more (w := w) (r := r) h.good
    rw [← ew] at this
    exact this
  · have e2 : P22.words (40 :: P22.spell n) = [40] :: P22.toks n := P22.words_opened h.ok
    refine bad_front nm_swap (by decide +kernel) (by decide +kernel) (by rw [List.length_cons]; omega) (by rw [e2, List.length_cons]; omega) (by rw [e2]; exact fun v hv => (List.mem_cons.mp hv).elim (fun z => by rw [z]; exact ⟨by decide, by decide +kernel⟩) (tt v)) (.inr ?_)
    rw [e2]
    exact P22.names_open h.good
  · exact bad_front nm_Right (by decide +kernel) (by decide +kernel) (by omega) (by rw [e]; omega) (by rw [e]; exact tt) (.inl (not_deed (by decide +kernel)))
  · have e2 : P22.words (P22.spell n ++ [41]) = P22.toks n ++ [[41]] := P22.words_close h.ok
    refine bad_front nm_left (by decide +kernel) (by decide +kernel) (by rw [List.length_append, List.length_singleton]; omega) (by rw [e2, List.length_append, List.length_singleton]; omega) (by rw [e2]; exact fun v hv => (List.mem_append.mp hv).elim (tt v) (fun z => by rw [List.mem_singleton.mp z]; exact ⟨by decide, by decide +kernel⟩)) (.inr ?_)
    rw [e2]
    exact P22.names_more h.good
  · have e2 : P22.words [40, 41] = [[40], [41]] := by decide +kernel
    refine bad_front nm_right (by decide +kernel) (by decide +kernel) (by decide) (by rw [e2]; decide) (by rw [e2]; decide +kernel) (.inr ?_)
    rw [e2]
    exact P22.names_empty
end
/-- what stays from call to call: all but the bag and the tables -/
structure Go (T : List (Addr × Str)) (b : Addr) (H H' : Hp) : Prop where
  keep : ∀ a o, a ≠ b → H a = some o → (∀ ps, o ≠ .tbl ps) → H' a = some o
  bag : Bag H' b
  list : ∀ l r, H b = some (.lst (.ref l :: r)) → ∃ r', H' b = some (.lst (.ref l :: r'))
  tabs : Tabs T H'
theorem tabs_keep {T : List (Addr × Str)} {b : Addr} {H H' : Hp} (t : Tabs T H) (x : Ex b H H') (g : Bag H b) : Tabs T H' := by
  intro p hp
  obtain ⟨ps, h1, h2, h3⟩ := t p hp
  obtain ⟨l, ns, pos, big, mixed, cnt, left, hb, _⟩ := g
  have nb : ∀ {a : Addr} {o : HO}, H a = some o → (∀ xs, o ≠ .lst xs) → a ≠ b := fun e n z => by
    rw [z, hb] at e
    exact n _ (Option.some.inj e).symm
  refine ⟨ps, x.keep _ _ (nb h1 (fun _ z => by cases z)) h1, h2, fun pos cv hc => ?_⟩
  obtain ⟨c, e1, e2⟩ := h3 pos cv hc
  exact ⟨c, e1, x.keep _ _ (nb e2 (fun _ z => by unfold CodeO at z; cases z)) e2⟩
theorem Go.rf {T : List (Addr × Str)} {b : Addr} {H : Hp} (g : Bag H b) (t : Tabs T H) : Go T b H H := ⟨fun _ _ _ e _ => e, g, fun l r e => ⟨r, e⟩, t⟩
theorem Go.ex {T : List (Addr × Str)} {b : Addr} {H H1 H2 : Hp} (x : Go T b H H1) (y : Ex b H1 H2) : Go T b H H2 := ⟨fun a o n e t => y.keep a o n (x.keep a o n e t), y.bag, fun l r e => by
  obtain ⟨r', e'⟩ := x.list l r e
  exact y.list l r' e', tabs_keep x.tabs y x.bag⟩
theorem Go.sm {T : List (Addr × Str)} {b : Addr} {H H1 H2 : Hp} (x : Go T b H H1) (s : Same H1 H2) : Go T b H H2 := x.ex ((Ex.rf x.bag).sm s)
theorem Go.tr {T : List (Addr × Str)} {b : Addr} {H H1 H2 : Hp} (x : Go T b H H1) (y : Go T b H1 H2) : Go T b H H2 := ⟨fun a o n e t => y.keep a o n (x.keep a o n e t) t, y.bag, fun l r e => by
  obtain ⟨r', e'⟩ := x.list l r e
  exact y.list l r' e', y.tabs⟩
theorem Go.xt {T : List (Addr × Str)} {b : Addr} {H H1 H2 : Hp} (x : Go T b H H1) (e : ExtN H1 H2) (t : Tabs T H2) : Go T b H H2 := by
  refine ⟨fun a o n h1 h2 => e a o (x.keep a o n h1 h2) h2, ?_, fun l r h1 => ?_, t⟩
  · obtain ⟨l, ns, pos, big, mixed, cnt, left, h1, h2, h3⟩ := x.bag
    exact ⟨l, ns, pos, big, mixed, cnt, left, e _ _ h1 (fun _ z => by cases z), e _ _ h2 (fun _ z => by cases z), h3⟩
  · obtain ⟨r', e'⟩ := x.list l r h1
    exact ⟨r', e _ _ e' (fun _ z => by cases z)⟩
/-- all but the tables and the lists stay: values -/
theorem TrAt.go {b : Addr} {H H' : Hp} (g : Bag H b) (k : ∀ a o, a ≠ b → H a = some o → (∀ ps, o ≠ .tbl ps) → H' a = some o) : ∀ {t : P22.Tr} {v : V}, TrAt H t v → TrAt H' t v
  | .leaf w, v, h => h
  | .node l r, v, ⟨a, x, y, hv, ha, hl, hr⟩ => by
    have nb : a ≠ b := fun z => by
      obtain ⟨l0, ns, pos, big, mixed, cnt, left, f1, _⟩ := g
      rw [z, f1] at ha
      cases ha
    exact ⟨a, x, y, hv, k _ _ nb ha (fun _ z => by cases z), hl.go g k, hr.go g k⟩
theorem TreeAt.go {b C x : Addr} {H H' : Hp} {T : P22.Tr} (g : Bag H b) (k : ∀ a o, a ≠ b → H a = some o → (∀ ps, o ≠ .tbl ps) → H' a = some o) (h : TreeAt C H x T) : TreeAt C H' x T := by
  obtain ⟨l0, ns, pos, big, mixed, cnt, left, f1, _⟩ := g
  have nb : ∀ {a : Addr} {o : HO}, H a = some o → (∀ xs, o ≠ .lst xs) → a ≠ b := fun e n z => by
    rw [z, f1] at e
    exact n _ (Option.some.inj e).symm
  have kk : ∀ {a : Addr} {o : HO}, H a = some o → (∀ xs, o ≠ .lst xs) → (∀ ps, o ≠ .tbl ps) → H' a = some o := fun e n t => k _ _ (nb e n) e t
  obtain ⟨dx, lv, nn, d, lo, ab, h1, h2, h3, ⟨kv1, i1, i2, i3⟩, ⟨kv2, j1, j2, j3⟩, h6⟩ := h
  refine ⟨dx, lv, nn, d, lo, ab, kk h1 (fun _ z => by cases z) (fun _ z => by cases z), kk h2 (fun _ z => by cases z) (fun _ z => by cases z), kk h3 (fun _ z => by cases z) (fun _ z => by cases z), ⟨kv1, kk i1 (fun _ z => by cases z) (fun _ z => by cases z), i2, fun i e' kv g1 g2 => (i3 i e' kv g1 g2).mono fun t l r z => kk z (fun _ z => by cases z) (fun _ z => by cases z)⟩,
    ⟨kv2, kk j1 (fun _ z => by cases z) (fun _ z => by cases z), j2, fun i n kv g1 g2 => ?_⟩, kk h6 (fun _ z => by cases z) (fun _ z => by cases z)⟩
  obtain ⟨t, et, ht⟩ := j3 i n kv g1 g2
  exact ⟨t, et, kk ht (fun _ z => by cases z) (fun _ z => by cases z)⟩
end W22

set_option Elab.async false
set_option linter.all false
set_option maxRecDepth 100000
set_option maxHeartbeats 4000000
/-! RC22: right_comb, exchange_deeds -/
namespace W22
open PySem PySem.Spec PyProof.Rows L2 Lay
open SX (S S_len S_cat S_tl)
open C8 (Cal pe_c pe_gc fnScope_by E0)
/-- words that names may be: short and few -/
def Few (ws : List P22.Wd) : Prop := ws.length ≤ 24 ∧ ∀ u ∈ ws, u.length ≤ 8
theorem few_spell {t : P22.Tr} (h : Few (P22.leaves t)) : (P22.spell t).length ≤ 300 := by
  have := P22.spell_len (k := 8) h.2
  have := h.1
  omega
theorem few_comb {ws : List P22.Wd} (h : Few ws) (n : ws ≠ []) : (P22.spell (P22.comb ws)).length ≤ 300 := few_spell (by rw [P22.comb_leaves n]; exact h)
theorem Few.sub {ws vs : List P22.Wd} (h : Few ws) (k : List.Sublist vs ws) : Few vs := ⟨Nat.le_trans k.length_le h.1, fun u hu => h.2 u (k.subset hu)⟩
theorem for_list_in {K : PySem.W.Frag} {tl : TE} {g : TG} {tb : TS} {D : Ends} {σ : L2.St} {H : Hp} {Pre : Hp → Addr → Prop} (h : ∀ R : VK, (∀ H1 l, Pre H1 l → R (.ref l) H1) → tl σ H R) (k : ∀ H1 l, Pre H1 l → ∃ xs, SqL K H1 l xs ∧ LoopL K g tb D σ H1 l xs) : tFor (iList K tl) g tb D σ H :=
  h _ fun H1 l p => by
    obtain ⟨xs, hs, lp⟩ := k H1 l p
    exact ⟨l, rfl, ⟨xs, hs⟩, lp.run⟩
theorem cut_last {xs : List V} {z : V} : cutV (xs ++ [z]) none (some (-1)) = xs := by
  unfold cutV
  have e : HT.sIx (xs ++ [z]).length (xs ++ [z]).length (some (-1)) = xs.length := by
    rw [List.length_append, List.length_singleton]
    unfold HT.sIx
    simp
    omega
  rw [e]
  show ((xs ++ [z]).drop 0).take (xs.length - 0) = _
  rw [List.drop_zero, Nat.sub_zero, List.take_left]
section
variable {P : Program} {w : World} {K : PySem.W.Frag} {mg : Str → Option Value} {base : Heap} {f : Addr} {fd : FuncData}
theorem sd31 : FnScope ["leaves", "text", "leaf"] ["leaves"] (defScope (top 31)) := fnScope_by (by decide +kernel)
def spRC : Sp := fun vs H Q _ => ∃ l ws, vs = [.ref l] ∧ H l = some (wordsV ws) ∧ ws ≠ [] ∧ Few ws ∧ ∀ H', Same H H' → Q (.str (S (P22.spell (P22.comb ws)))) H'
theorem ok_rc (m : Mg K mg) (dk : DigK K) (F : Fn K "right_comb" 31 f fd) (g : mg "right_comb" = some (.ref f)) : Cal P w K mg base 1 "right_comb" spRC [] := by
  have sc := sd31
  refine calD F g sc (fun _ _ _ _ _ _ us hl => match us, hl with | [_], _ => rfl) ?_ fun cdv A outer s H vs Q E hr h => ?_
  · rintro vs H Q E ⟨l, ws, rfl, _⟩
    rfl
  · obtain ⟨l, ws, rfl, hl, ne, few, q⟩ := h
    refine ⟨_, (pss_cons (ps_set (i := 1) sc.nd rfl (.inl rfl) (pe_ix ix_list (pv 0) (pe_un un_neg pe_int) (fun _ _ => rfl)))
      (pss_cons (ps_for pown rfl (pi_list (pe_revL (pe_slice sl_list (pv 0) po_none (po_some (pe_un un_neg pe_int))))) (pg_name (i := 2) sc.nd rfl (.inl rfl))
        (pss_one (ps_set (i := 1) sc.nd rfl (.inl rfl) (pe_joined (.cons pe_str (.cons (pe_fmtB rfl dk (pv 2)) (.cons pe_str (.cons (pe_fmtB rfl dk (pv 1)) (.cons pe_str PJ.nil)))))))))
      (pss_one (ps_ret (pv 1))))), ?_⟩
    obtain ⟨ini, z, rfl⟩ : ∃ ini z, ws = ini ++ [z] := ⟨ws.dropLast, ws.getLast ne, (List.dropLast_concat_getLast ne).symm⟩
    have ew : wordsV (ini ++ [z]) = .lst ((ini.map fun w => V.str (S w)) ++ [V.str (S z)]) := by
      unfold wordsV
      rw [List.map_append]
      rfl
    rw [ew] at hl
    refine seq_cut (fun σ' H' => σ' = [some (.ref l), some (.str (S z)), none] ∧ H' = H) (fun D' hrt hn => ?_) ?_
    · simp only [L2.start, cxOf, tRet, tAndV, tOrV, tNotV, tCB, tCons, tNil, tVar, tC, tOp, tUn, tTest, tB, tIf, tIfS, tSeq, tAsg, tAnd, tOr, tNot, gName, tNext, tCall, tChain, rI, rI0, rEq, rNe, rGcd, rU, tM1, tM0, tSl, tPart, tNoPart, gTup, gCons, gNil, gSub, tTup, tLst, tPar, L2.rI, List.map_cons, List.map_nil, List.length_cons, List.length_nil, List.cons_append, List.nil_append, List.append_nil, List.getElem?_cons_zero, List.getElem?_cons_succ, List.set_cons_zero, List.set_cons_succ, Option.some.injEq, exists_eq_left, exists_eq_left', exists_eq_right, exists_and_left, exists_and_right, List.cons.injEq, and_true, true_and, V.int.injEq, V.str.injEq, V.bl.injEq, V.ref.injEq, List.replicate, Nat.reduceAdd, Nat.reduceSub, reduceCtorEq, false_and, and_false, if_true, if_false, Bool.false_eq_true, Bool.not_true, Bool.not_false, decide_eq_true_eq, exists_false, or_false, false_or]
      exact ⟨l, _, -1, V.str (S z), rfl, rfl, SqL.of hl, at_last (by simp), hn _ _ ⟨rfl, rfl⟩⟩
    rintro σ' H' ⟨rfl, rfl⟩
    refine seq_cut (fun σ' H'' => ∃ y, σ' = [some (.ref l), some (.str (S (P22.spell (P22.comb (ini ++ [z]))))), y] ∧ Same H' H'') (fun D' hrt hn => ?_) ?_
    · refine for_list_in (Pre := fun H1 p => Same H' H1 ∧ H1 p = some (.lst (ini.map fun w => V.str (S w)).reverse)) (fun R k => ?_) fun H1 p ⟨s1, hp⟩ => ⟨_, SqL.of hp, fun i σ' H2 => H2 = H1 ∧ ∃ y, σ' = [some (.ref l), some (.str (S (P22.spell (P22.comb ((ini.reverse.take i).reverse ++ [z]))))), y], ⟨rfl, none, rfl⟩, fun i σ' H2 hi h => by rw [h.1]; exact SqL.of hp, ?_, ?_⟩
      · simp only [L2.start, cxOf, tRet, tAndV, tOrV, tNotV, tCB, tCons, tNil, tVar, tC, tOp, tUn, tTest, tB, tIf, tIfS, tSeq, tAsg, tAnd, tOr, tNot, gName, tNext, tCall, tChain, rI, rI0, rEq, rNe, rGcd, rU, tM1, tM0, tSl, tPart, tNoPart, gTup, gCons, gNil, gSub, tTup, tLst, tPar, L2.rI, List.map_cons, List.map_nil, List.length_cons, List.length_nil, List.cons_append, List.nil_append, List.append_nil, List.getElem?_cons_zero, List.getElem?_cons_succ, List.set_cons_zero, List.set_cons_succ, Option.some.injEq, exists_eq_left, exists_eq_left', exists_eq_right, exists_and_left, exists_and_right, List.cons.injEq, and_true, true_and, V.int.injEq, V.str.injEq, V.bl.injEq, V.ref.injEq, List.replicate, Nat.reduceAdd, Nat.reduceSub, reduceCtorEq, false_and, and_false, if_true, if_false, Bool.false_eq_true, Bool.not_true, Bool.not_false, decide_eq_true_eq, exists_false, or_false, false_or, tRevL]
        refine ⟨l, _, rfl, SqL.of hl, fun p1 hp1 => ?_⟩
        rw [cut_last]
        exact ⟨p1, rfl, _, SqL.of upd_same, fun p2 hp2 => k _ _ ⟨(same_new hp1).trans (same_new hp2), upd_same⟩⟩
      · rintro i x σ' H2 hx ⟨rfl, y, rfl⟩
        rw [← List.map_reverse, List.getElem?_map] at hx
        obtain ⟨u, hu, rfl⟩ := Option.map_eq_some_iff.mp hx
        have e1 : (ini.reverse.take (i + 1)).reverse ++ [z] = u :: ((ini.reverse.take i).reverse ++ [z]) := by
          rw [List.take_succ, hu]
          simp
        have fw : Few ((ini.reverse.take i).reverse ++ [z]) := few.sub (List.Sublist.append (by rw [← List.reverse_sublist]; simpa using List.take_sublist i ini.reverse) (List.Sublist.refl _))
        have lt := few_comb fw (by simp)
        have lu : u.length ≤ 8 := few.2 u (List.mem_append_left _ (by
          have := List.mem_of_getElem? hu
          simpa using this))
        simp only [L2.start, cxOf, tRet, tAndV, tOrV, tNotV, tCB, tCons, tNil, tVar, tC, tOp, tUn, tTest, tB, tIf, tIfS, tSeq, tAsg, tAnd, tOr, tNot, gName, tNext, tCall, tChain, rI, rI0, rEq, rNe, rGcd, rU, tM1, tM0, tSl, tPart, tNoPart, gTup, gCons, gNil, gSub, tTup, tLst, tPar, L2.rI, List.map_cons, List.map_nil, List.length_cons, List.length_nil, List.cons_append, List.nil_append, List.append_nil, List.getElem?_cons_zero, List.getElem?_cons_succ, List.set_cons_zero, List.set_cons_succ, Option.some.injEq, exists_eq_left, exists_eq_left', exists_eq_right, exists_and_left, exists_and_right, List.cons.injEq, and_true, true_and, V.int.injEq, V.str.injEq, V.bl.injEq, V.ref.injEq, List.replicate, Nat.reduceAdd, Nat.reduceSub, reduceCtorEq, false_and, and_false, if_true, if_false, Bool.false_eq_true, Bool.not_true, Bool.not_false, decide_eq_true_eq, exists_false, or_false, false_or]
        refine js_all (acc := []) (ys := [[40], u, [32], P22.spell (P22.comb ((ini.reverse.take i).reverse ++ [z])), [41]]) ⟨piece_c (by decide +kernel), piece_f (by omega) fun R k => ⟨_, rfl, k⟩, piece_c (by decide +kernel), piece_f (by omega) fun R k => ⟨_, rfl, k⟩, piece_c (by decide +kernel), trivial⟩ ?_ ?_
        · simp only [List.flatten_cons, List.flatten_nil, List.length_append, List.length_cons, List.length_nil]
          omega
        · refine ⟨rfl, ⟨?_, _, rfl⟩⟩
          rw [e1, P22.comb_cons (by simp)]
          simp [P22.spell]
      · rintro σ' H2 ⟨rfl, y, rfl⟩
        rw [List.length_reverse, List.length_map, ← List.length_reverse, List.take_length, List.reverse_reverse]
        exact hn _ _ ⟨y, rfl, s1⟩
    rintro σ' H2 ⟨y, rfl, s2⟩
    simp only [L2.start, cxOf, tRet, tAndV, tOrV, tNotV, tCB, tCons, tNil, tVar, tC, tOp, tUn, tTest, tB, tIf, tIfS, tSeq, tAsg, tAnd, tOr, tNot, gName, tNext, tCall, tChain, rI, rI0, rEq, rNe, rGcd, rU, tM1, tM0, tSl, tPart, tNoPart, gTup, gCons, gNil, gSub, tTup, tLst, tPar, L2.rI, List.map_cons, List.map_nil, List.length_cons, List.length_nil, List.cons_append, List.nil_append, List.append_nil, List.getElem?_cons_zero, List.getElem?_cons_succ, List.set_cons_zero, List.set_cons_succ, Option.some.injEq, exists_eq_left, exists_eq_left', exists_eq_right, exists_and_left, exists_and_right, List.cons.injEq, and_true, true_and, V.int.injEq, V.str.injEq, V.bl.injEq, V.ref.injEq, List.replicate, Nat.reduceAdd, Nat.reduceSub, reduceCtorEq, false_and, and_false, if_true, if_false, Bool.false_eq_true, Bool.not_true, Bool.not_false, decide_eq_true_eq, exists_false, or_false, false_or]
    exact q H2 s2
end
end W22

set_option Elab.async false
set_option linter.all false
set_option maxRecDepth 100000
set_option maxHeartbeats 4000000
/-! XD22: exchange_deeds -/
namespace W22
open PySem PySem.Spec PyProof.Rows L2 Lay
open SX (S S_len S_cat S_tl)
open C8 (Cal pe_c pe_gc fnScope_by E0)
theorem _root_.L2.Same.fresh {H H' : Hp} {a : Addr} (s : Same H H') (h : H' a = none) : H a = none := by
  cases e : H a with
  | none => rfl
  | some o =>
    rw [s _ _ e] at h
    cases h
abbrev dV (d : Nat × P22.Tr) : V := .str (S (P22.dtext d))
section
variable {P : Program} {w : World} {K : PySem.W.Frag} {mg : Str → Option Value} {base : Heap} {f : Addr} {fd : FuncData}
theorem sd33 : FnScope ["leaves", "at", "first", "second", "rest"] ["leaves", "at"] (defScope (top 33)) := fnScope_by (by decide +kernel)
def spXD : Sp := fun vs H Q _ => ∃ l ws x y r, vs = [.ref l, .int ((ws.length : Nat) : Int)] ∧ H l = some (wordsV (ws ++ x :: y :: r)) ∧ Few (ws ++ x :: y :: r) ∧ ∀ H' p, Same H H' → H p = none → H' p = some (.lst ((P22.exch x y r).map dV)) → Q (.ref p) H'
theorem ok_xd (m : Mg K mg) (dk : DigK K) (c_right_comb : Cal P w K mg base 1 "right_comb" spRC []) (F : Fn K "exchange_deeds" 33 f fd) (g : mg "exchange_deeds" = some (.ref f)) : Cal P w K mg base 2 "exchange_deeds" spXD [] := by
  have sc := sd33
  refine calD F g sc (fun _ _ _ _ _ _ us hl => match us, hl with | [_, _], _ => rfl) ?_ fun cdv A outer s H vs Q E hr h => ?_
  · rintro vs H Q E ⟨l, ws, x, y, r, rfl, _⟩
    rfl
  · obtain ⟨l, ws, x, y, r, rfl, hl, few, q⟩ := h
    refine ⟨_, (pss_cons (ps_set (i := 2) sc.nd rfl (.inl rfl) (pe_ix ix_list (pv 0) (pv 1) (fun _ _ => rfl)))
      (pss_cons (ps_set (i := 3) sc.nd rfl (.inl rfl) (pe_ix ix_list (pv 0) (pe_op op_add (pv 1) pe_int) (fun _ _ => rfl)))
      (pss_cons (ps_if (pt_cmpR op_eq (pe_op op_add (pv 1) pe_int) (pe_callB call_len (by rfl) m.len_ boot_len (pa_cons (pv 0) pa_nil)) (nomark _))
        (pss_one (ps_ret (pe_lst (pa_cons (pe_joined (.cons pe_str (.cons (pe_fmtB rfl dk (pv 2)) (.cons pe_str (.cons (pe_fmtB rfl dk (pv 3)) (.cons pe_str PJ.nil)))))) pa_nil))))
        pss_nil)
      (pss_cons (ps_set (i := 4) sc.nd rfl (.inl rfl) (pe_c c_right_comb hr (by decide) (by rfl) (pa_cons (pe_slice sl_list (pv 0) (po_some (pe_op op_add (pv 1) pe_int)) po_none) pa_nil)))
      (pss_one (ps_ret (pe_lst (pa_cons (pe_joined (.cons pe_str (.cons (pe_fmtB rfl dk (pv 2)) (.cons pe_str (.cons (pe_fmtB rfl dk (pv 3)) (.cons pe_str (.cons (pe_fmtB rfl dk (pv 4)) (.cons pe_str PJ.nil)))))))) (pa_cons (pe_joined (.cons pe_str (.cons (pe_fmtB rfl dk (pv 2)) (.cons pe_str (.cons (pe_fmtB rfl dk (pv 3)) (.cons pe_str PJ.nil)))))) (pa_cons (pe_joined (.cons pe_str (.cons (pe_fmtB rfl dk (pv 3)) (.cons pe_str (.cons (pe_fmtB rfl dk (pv 2)) (.cons pe_str (.cons (pe_fmtB rfl dk (pv 4)) (.cons pe_str PJ.nil)))))))) pa_nil)))))))))), ?_⟩
    have lx : x.length ≤ 8 := few.2 x (by simp)
    have ly : y.length ≤ 8 := few.2 y (by simp)
    have len := few.1
    rw [List.length_append, List.length_cons, List.length_cons] at len
    have e0 : atI ((ws ++ x :: y :: r).map fun w => V.str (S w)) ((ws.length : Nat) : Int) = some (V.str (S x)) := atI_nat (by rw [List.getElem?_map, P22.at_f]; rfl)
    have e1 : atI ((ws ++ x :: y :: r).map fun w => V.str (S w)) (((ws.length : Nat) : Int) + 1) = some (V.str (S y)) := by
      rw [show ((ws.length : Nat) : Int) + 1 = ((ws.length + 1 : Nat) : Int) by omega]
      exact atI_nat (by rw [List.getElem?_map, P22.at_s]; rfl)
    simp only [L2.start, cxOf, tRet, tAndV, tOrV, tNotV, tCB, tCons, tNil, tVar, tC, tOp, tUn, tTest, tB, tIf, tIfS, tSeq, tAsg, tAnd, tOr, tNot, gName, tNext, tCall, tChain, rI, rI0, rEq, rNe, rGcd, rU, tM1, tM0, tSl, tPart, tNoPart, gTup, gCons, gNil, gSub, tTup, tLst, tPar, L2.rI, List.map_cons, List.map_nil, List.length_cons, List.length_nil, List.cons_append, List.nil_append, List.append_nil, List.getElem?_cons_zero, List.getElem?_cons_succ, List.set_cons_zero, List.set_cons_succ, Option.some.injEq, exists_eq_left, exists_eq_left', exists_eq_right, exists_and_left, exists_and_right, List.cons.injEq, and_true, true_and, V.int.injEq, V.str.injEq, V.bl.injEq, V.ref.injEq, List.replicate, Nat.reduceAdd, Nat.reduceSub, reduceCtorEq, false_and, and_false, if_true, if_false, Bool.false_eq_true, Bool.not_true, Bool.not_false, decide_eq_true_eq, exists_false, or_false, false_or]
    refine ⟨l, _, _, V.str (S x), rfl, rfl, SqL.of hl, e0, l, _, _, V.str (S y), rfl, rfl, SqL.of hl, e1, _, len_L (SqL.of hl), rfl, ?_⟩
    rw [List.length_map, List.length_append, List.length_cons, List.length_cons]
    unfold P22.exch at q
    by_cases hr : r = []
    · subst hr
      rw [if_pos rfl] at q
      rw [if_pos (by simp)]
      refine js_all (acc := []) (ys := [[115, 119, 97, 112, 32, 40], x, [32], y, [41]]) ⟨piece_c (by decide +kernel), piece_f (by omega) fun R k => ⟨_, rfl, k⟩, piece_c (by decide +kernel), piece_f (by omega) fun R k => ⟨_, rfl, k⟩, piece_c (by decide +kernel), trivial⟩ ?_ ⟨small (by decide), fun p hp => q _ p (same_new hp) hp ?_⟩
      · simp only [List.flatten_cons, List.flatten_nil, List.length_append, List.length_cons, List.length_nil]
        omega
      · rw [upd_same]
        simp [P22.dtext, P22.kw, P22.spell]
    · rw [if_neg hr] at q
      have lr : 0 < r.length := List.length_pos_iff.mpr hr
      rw [if_neg (by omega)]
      have fr : Few r := few.sub (List.Sublist.trans (List.Sublist.cons x (List.Sublist.cons y (List.Sublist.refl r))) (List.sublist_append_right ws (x :: y :: r)))
      have lc := few_comb fr hr
      refine ⟨l, _, rfl, SqL.of hl, fun p hp => ?_⟩
      have ec : cutV ((ws ++ x :: y :: r).map fun w => V.str (S w)) (some (((ws.length : Nat) : Int) + 2)) none = r.map fun w => V.str (S w) := by
        rw [show ((ws.length : Nat) : Int) + 2 = ((ws.length + 2 : Nat) : Int) by omega, cut_from (by rw [List.length_append, List.length_cons, List.length_cons]; omega), P22.at_r]
      rw [ec]
      refine ⟨p, r, rfl, upd_same, hr, fr, fun H1 s1 => ?_⟩
      have s01 := (same_new hp).trans s1
      refine js_all (acc := []) (ys := [[108, 101, 102, 116, 32, 40], x, [32, 40], y, [32], P22.spell (P22.comb r), [41, 41]]) ⟨piece_c (by decide +kernel), piece_f (by omega) fun R k => ⟨_, rfl, k⟩, piece_c (by decide +kernel), piece_f (by omega) fun R k => ⟨_, rfl, k⟩, piece_c (by decide +kernel), piece_f (by omega) fun R k => ⟨_, rfl, k⟩, piece_c (by decide +kernel), trivial⟩ ?_ ?_
      · simp only [List.flatten_cons, List.flatten_nil, List.length_append, List.length_cons, List.length_nil]
        omega
      refine js_all (acc := []) (ys := [[115, 119, 97, 112, 32, 40], x, [32], y, [41]]) ⟨piece_c (by decide +kernel), piece_f (by omega) fun R k => ⟨_, rfl, k⟩, piece_c (by decide +kernel), piece_f (by omega) fun R k => ⟨_, rfl, k⟩, piece_c (by decide +kernel), trivial⟩ ?_ ?_
      · simp only [List.flatten_cons, List.flatten_nil, List.length_append, List.length_cons, List.length_nil]
        omega
      refine js_all (acc := []) (ys := [[114, 105, 103, 104, 116, 32, 40, 40], y, [32], x, [41, 32], P22.spell (P22.comb r), [41]]) ⟨piece_c (by decide +kernel), piece_f (by omega) fun R k => ⟨_, rfl, k⟩, piece_c (by decide +kernel), piece_f (by omega) fun R k => ⟨_, rfl, k⟩, piece_c (by decide +kernel), piece_f (by omega) fun R k => ⟨_, rfl, k⟩, piece_c (by decide +kernel), trivial⟩ ?_ ⟨small (by decide), fun p2 hp2 => q _ p2 (s01.trans (same_new hp2)) (s01.fresh hp2) ?_⟩
      · simp only [List.flatten_cons, List.flatten_nil, List.length_append, List.length_cons, List.length_nil]
        omega
      · rw [upd_same]
        simp [P22.dtext, P22.kw, P22.spell]
end
end W22

set_option Elab.async false
set_option linter.all false
set_option maxRecDepth 100000
set_option maxHeartbeats 4000000
/-! OD22: order_deeds -/
namespace W22
open PySem PySem.Spec PyProof.Rows L2 Lay
open SX (S S_len S_cat S_tl)
open C8 (Cal pe_c pe_gc fnScope_by E0)
theorem walk_enumT {K : PySem.W.Frag} {a : Addr} {xs : List V} : Walk (IteT K a) xs.length (fun H => SqT K H a xs) (YPair (fun i => some (.int (i : Nat))) (fun i => xs[i]?)) := by
  refine ⟨fun i _ hi q => ⟨xs, xs[i], q, by simp [hi]⟩, fun _ q => ⟨xs, q, Nat.le_refl _⟩, fun i H v H' _ q y => ?_⟩
  obtain ⟨T, x, e1, e2, e3, e4⟩ := y
  exact ⟨T, .int (i : Nat), x, e1, e2, e3, rfl, e4 xs q⟩
abbrev wsV (ws : List P22.Wd) : List V := ws.map fun w => V.str (S w)
theorem ixN_at {n j : Nat} (h : j < n) : ixN n (j : Int) = some j := by
  unfold ixN
  rw [if_pos (by omega), if_pos (by omega)]
  rfl
/-- the rest of the work for one leaf: n exchanges from place a on -/
def sinkD : Nat → List P22.Wd → Nat → List (Nat × P22.Tr) × List P22.Wd
  | 0, row, _ => ([], row)
  | n + 1, row, a => (P22.exch (row.getD (a - 1) []) (row.getD a []) (row.drop (a + 1)) ++ (sinkD n (row.take (a - 1) ++ row.getD a [] :: row.getD (a - 1) [] :: row.drop (a + 1)) (a - 1)).1,
      (sinkD n (row.take (a - 1) ++ row.getD a [] :: row.getD (a - 1) [] :: row.drop (a + 1)) (a - 1)).2)
/-- the rest of the work from place i on -/
def ordD : List P22.Wd → Nat → List P22.Wd → List (Nat × P22.Tr)
  | [], _, _ => []
  | leaf :: g, i, row => (sinkD (row.idxOf leaf - i) row (row.idxOf leaf)).1 ++ ordD g (i + 1) (sinkD (row.idxOf leaf - i) row (row.idxOf leaf)).2
theorem sink_step {n : Nat} {ws r : List P22.Wd} {x s : P22.Wd} : sinkD (n + 1) (ws ++ x :: s :: r) (ws.length + 1) = (P22.exch x s r ++ (sinkD n (ws ++ s :: x :: r) ws.length).1, (sinkD n (ws ++ s :: x :: r) ws.length).2) := by
  have e1 : (ws ++ x :: s :: r).getD ws.length [] = x := by simp [List.getD, P22.at_f]
  have e2 : (ws ++ x :: s :: r).getD (ws.length + 1) [] = s := by simp only [List.getD, P22.at_s, Option.getD_some]
  have e3 : (ws ++ x :: s :: r).drop (ws.length + 1 + 1) = r := by
    rw [List.drop_append, List.drop_eq_nil_of_le (by omega), show ws.length + 1 + 1 - ws.length = 2 by omega]
    rfl
  have e4 : (ws ++ x :: s :: r).take ws.length = ws := List.take_left
  simp only [sinkD, Nat.add_sub_cancel, e1, e2, e3, e4]
theorem idx_at {l : List P22.Wd} {a : P22.Wd} (h : a ∈ l) : l[l.idxOf a]? = some a := by
  have := List.idxOf_lt_length_of_mem h
  rw [List.getElem?_eq_getElem this]
  exact congrArg some (List.getElem_idxOf this)
/-- what stands as place comes to i -/
structure OdS (H : Hp) (pr pd : Addr) (row goal : List P22.Wd) (i : Nat) (H' : Hp) : Prop where
  keep : ∀ b u, b ≠ pr → b ≠ pd → H b = some u → H' b = some u
  ex : ∃ row' ds, H' pr = some (wordsV row') ∧ H' pd = some (.lst (ds.map dV)) ∧ row'.Perm row ∧ row'.take i = goal.take i ∧ ds.length ≤ 72 * i ∧ P22.Walks (P22.comb row) ds (P22.comb row') ∧ ds ++ ordD (goal.drop i) i row' = ordD goal 0 row
/-- what stands as at comes to a -/
structure OdW (H : Hp) (pr pd : Addr) (row goal : List P22.Wd) (i : Nat) (leaf : P22.Wd) (a : Nat) (H' : Hp) : Prop where
  keep : ∀ b u, b ≠ pr → b ≠ pd → H b = some u → H' b = some u
  ex : ∃ row' ds, H' pr = some (wordsV row') ∧ H' pd = some (.lst (ds.map dV)) ∧ row'.Perm row ∧ row'.take i = goal.take i ∧ i ≤ a ∧ row'[a]? = some leaf ∧ ds.length + 3 * a ≤ 72 * (i + 1) ∧ P22.Walks (P22.comb row) ds (P22.comb row') ∧ ds ++ ((sinkD (a - i) row' a).1 ++ ordD (goal.drop (i + 1)) (i + 1) (sinkD (a - i) row' a).2) = ordD goal 0 row
section
variable {P : Program} {w : World} {K : PySem.W.Frag} {mg : Str → Option Value} {base : Heap} {f : Addr} {fd : FuncData}
theorem sd34 : FnScope ["leaves", "goal", "row", "deeds", "place", "leaf", "at"] ["leaves", "goal"] (defScope (top 34)) := fnScope_by (by decide +kernel)
def spOD : Sp := fun vs H Q _ => ∃ t1 t2 row goal, vs = [.ref t1, .ref t2] ∧ H t1 = some (.tup (wsV row)) ∧ H t2 = some (.tup (wsV goal)) ∧ row.Nodup ∧ row.Perm goal ∧ row ≠ [] ∧ Few row ∧
  ∀ H' p ds, Same H H' → H p = none → H' p = some (.lst (ds.map dV)) → ds.length ≤ 2000 → P22.Walks (P22.comb row) ds (P22.comb goal) → ds = ordD goal 0 row → Q (.ref p) H'
theorem ok_od (m : Mg K mg) (c_exchange_deeds : Cal P w K mg base 2 "exchange_deeds" spXD []) (F : Fn K "order_deeds" 34 f fd) (g : mg "order_deeds" = some (.ref f)) : Cal P w K mg base 3 "order_deeds" spOD [] := by
  have sc := sd34
  refine calD F g sc (fun _ _ _ _ _ _ us hl => match us, hl with | [_, _], _ => rfl) ?_ fun cdv A outer s H vs Q E hr h => ?_
  · rintro vs H Q E ⟨t1, t2, row, goal, rfl, _⟩
    rfl
  · obtain ⟨t1, t2, row, goal, rfl, h1, h2, nd, pm, ne, few, q⟩ := h
    refine ⟨_, (pss_cons (ps_set (i := 2) sc.nd rfl (.inl rfl) (pe_callTy call_list_of (by rfl) m.list_ boot_list (pa_cons (pv 0) pa_nil)))
      (pss_cons (ps_set (i := 3) sc.nd rfl (.inl rfl) (pe_lst pa_nil))
      (pss_cons (ps_for pown rfl (pi_enumT (by rfl) m.enumerate_ (pa_cons (pv 1) pa_nil)) (pg_tup rfl (pgs_cons (pg_name (i := 4) sc.nd rfl (.inl rfl)) (pgs_cons (pg_name (i := 5) sc.nd rfl (.inl rfl)) pgs_nil)))
        (pss_cons (ps_set (i := 6) sc.nd rfl (.inl rfl) (pe_bm PySem.F.plainAttrs_list PySem.F.slot_list_index PySem.F.type_list_index mt_index (pv 2) (pa_cons (pv 5) pa_nil)))
        (pss_one (ps_while pown (pt_cmpR op_gt (pv 6) (pv 4) (nomark _))
          (pss_cons (ps_aug (i := 6) sc.nd rfl (.inl rfl) pe_int ip_sub)
          (pss_cons (ps_expr (pe_bm PySem.F.plainAttrs_list PySem.F.slot_list_extend PySem.F.type_list_extend mt_extend (pv 3) (pa_cons (pe_c c_exchange_deeds hr (by decide) (by rfl) (pa_cons (pv 2) (pa_cons (pv 6) pa_nil))) pa_nil)))
          (pss_one (ps_asg (pe_tup (pa_cons (pe_ix ix_list (pv 2) (pe_op op_add (pv 6) pe_int) (fun _ _ => rfl)) (pa_cons (pe_ix ix_list (pv 2) (pv 6) (fun _ _ => rfl)) pa_nil))) (pg_tup rfl (pgs_cons (pg_sub (pv 2) (pv 6) set_list) (pgs_cons (pg_sub (pv 2) (pe_op op_add (pv 6) pe_int) set_list) pgs_nil)))))))))))
      (pss_one (ps_ret (pv 3)))))), ?_⟩
    have gnd : goal.Nodup := pm.nodup_iff.mp nd
    have glen : goal.length = row.length := pm.length_eq.symm
    have rlen := few.1
    have szl := sizeLine_eq
    refine seq_cut (fun σ' H' => ∃ pr, σ' = [some (.ref t1), some (.ref t2), some (.ref pr), none, none, none, none] ∧ Same H H' ∧ H pr = none ∧ H' pr = some (wordsV row)) (fun D' hrt hn => ?_) ?_
    · simp only [L2.start, cxOf, tRet, tAndV, tOrV, tNotV, tCB, tCons, tNil, tVar, tC, tOp, tUn, tTest, tB, tIf, tIfS, tSeq, tAsg, tAnd, tOr, tNot, gName, tNext, tCall, tChain, rI, rI0, rEq, rNe, rGcd, rU, tM1, tM0, tSl, tPart, tNoPart, gTup, gCons, gNil, gSub, tTup, tLst, tPar, L2.rI, List.map_cons, List.map_nil, List.length_cons, List.length_nil, List.cons_append, List.nil_append, List.append_nil, List.getElem?_cons_zero, List.getElem?_cons_succ, List.set_cons_zero, List.set_cons_succ, Option.some.injEq, exists_eq_left, exists_eq_left', exists_eq_right, exists_and_left, exists_and_right, List.cons.injEq, and_true, true_and, V.int.injEq, V.str.injEq, V.bl.injEq, V.ref.injEq, List.replicate, Nat.reduceAdd, Nat.reduceSub, reduceCtorEq, false_and, and_false, if_true, if_false, Bool.false_eq_true, Bool.not_true, Bool.not_false, decide_eq_true_eq, exists_false, or_false, false_or]
      exact ⟨_, .inr (sqT_of h1), fun l hl => hn _ _ ⟨l, rfl, same_new hl, hl, upd_same⟩⟩
    rintro σ' H1 ⟨pr, rfl, s1, npr, hpr⟩
    refine seq_cut (fun σ' H' => ∃ pd, σ' = [some (.ref t1), some (.ref t2), some (.ref pr), some (.ref pd), none, none, none] ∧ Same H H' ∧ H pd = none ∧ pd ≠ pr ∧ H' pr = some (wordsV row) ∧ H' pd = some (.lst [])) (fun D' hrt hn => ?_) ?_
    · simp only [L2.start, cxOf, tRet, tAndV, tOrV, tNotV, tCB, tCons, tNil, tVar, tC, tOp, tUn, tTest, tB, tIf, tIfS, tSeq, tAsg, tAnd, tOr, tNot, gName, tNext, tCall, tChain, rI, rI0, rEq, rNe, rGcd, rU, tM1, tM0, tSl, tPart, tNoPart, gTup, gCons, gNil, gSub, tTup, tLst, tPar, L2.rI, List.map_cons, List.map_nil, List.length_cons, List.length_nil, List.cons_append, List.nil_append, List.append_nil, List.getElem?_cons_zero, List.getElem?_cons_succ, List.set_cons_zero, List.set_cons_succ, Option.some.injEq, exists_eq_left, exists_eq_left', exists_eq_right, exists_and_left, exists_and_right, List.cons.injEq, and_true, true_and, V.int.injEq, V.str.injEq, V.bl.injEq, V.ref.injEq, List.replicate, Nat.reduceAdd, Nat.reduceSub, reduceCtorEq, false_and, and_false, if_true, if_false, Bool.false_eq_true, Bool.not_true, Bool.not_false, decide_eq_true_eq, exists_false, or_false, false_or]
      exact ⟨small (by decide), fun d hd => hn _ _ ⟨d, rfl, s1.trans (same_new hd), s1.fresh hd, (fun z => by rw [z, hpr] at hd; cases hd), same_new hd _ _ hpr, upd_same⟩⟩
    rintro σ' H2 ⟨pd, rfl, s2, npd, npr2, hpr2, hpd2⟩
    refine seq_cut (fun σ' H' => (∃ y4 y5 y6, σ' = [some (.ref t1), some (.ref t2), some (.ref pr), some (.ref pd), y4, y5, y6]) ∧ OdS H pr pd row goal goal.length H') (fun D' hrt hn => ?_) ?_
    · unfold tFor iEnumT
      refine ⟨_, rfl, t2, _, rfl, sqT_of (s2 _ _ h2), ?_⟩
      refine for_it (walk_enumT (K := K) (a := t2) (xs := wsV goal)) (fun i σ' H' => (∃ y4 y5 y6, σ' = [some (.ref t1), some (.ref t2), some (.ref pr), some (.ref pd), y4, y5, y6]) ∧ OdS H pr pd row goal i H') ⟨⟨_, _, _, rfl⟩, fun b u _ _ e => s2 _ _ e, row, [], hpr2, hpd2, List.Perm.refl _, rfl, by simp, .nil, rfl⟩ (fun i σ' H' hi h => sqT_of (h.2.keep _ _ (ne_of_none h2 npr) (ne_of_none h2 npd) h2)) ?_ (fun σ' H' h => hn _ _ ⟨h.1, (show (wsV goal).length = goal.length from List.length_map _) ▸ h.2⟩)
      rintro i x σ' H3 H4 hi ⟨⟨y4, y5, y6, rfl⟩, keep, row', ds, hr3, hd3, pm3, tk3, ln3, wk3, dt3⟩ ⟨T, u, v, rfl, hT, rfl, eu, ev⟩
      cases eu
      have ev : (wsV goal)[i]? = some v := ev
      rw [List.getElem?_map] at ev
      obtain ⟨leaf, hleaf, rfl⟩ := Option.map_eq_some_iff.mp ev
      have hr5 := same_new (o := .tup [.int (i : Nat), .str (S leaf)]) hT _ _ hr3
      have hd5 := same_new (o := .tup [.int (i : Nat), .str (S leaf)]) hT _ _ hd3
      have keep5 : ∀ b u, b ≠ pr → b ≠ pd → H b = some u → upd H3 T (.tup [.int (i : Nat), .str (S leaf)]) b = some u := fun b u n1 n2 e => same_new hT _ _ (keep b u n1 n2 e)
      have lr : row'.length = row.length := pm3.length_eq
      have nd3 : row'.Nodup := pm3.nodup_iff.mpr nd
      refine ⟨T, _, rfl, sqT_of upd_same, rfl, _, _, rfl, _, _, rfl, rfl, ?_⟩
      generalize upd H3 T (.tup [.int (i : Nat), .str (S leaf)]) = H5 at hr5 hd5 keep5 ⊢
      show tSeq _ _ _ [some (.ref t1), some (.ref t2), some (.ref pr), some (.ref pd), some (.int (i : Nat)), some (.str (S leaf)), y6] H5
      obtain ⟨j, ejx, hj⟩ : ∃ j, j = row'.idxOf leaf ∧ row'[j]? = some leaf := ⟨_, rfl, idx_at (pm3.mem_iff.mpr (pm.mem_iff.mpr (List.mem_of_getElem? hleaf)))⟩
      have dt5 : ds ++ ((sinkD (j - i) row' j).1 ++ ordD (goal.drop (i + 1)) (i + 1) (sinkD (j - i) row' j).2) = ordD goal 0 row := by
        rw [← dt3, ejx]
        obtain ⟨li, e⟩ := List.getElem?_eq_some_iff.mp hleaf
        rw [List.drop_eq_getElem_cons li, e]
        rfl
      have lj : j < row'.length := (List.getElem?_eq_some_iff.mp hj).1
      have lij : i ≤ j := by
        refine Nat.le_of_not_lt fun z => ?_
        have e1 : (row'.take i)[j]? = some leaf := by rw [List.getElem?_take_of_lt z]; exact hj
        rw [tk3, List.getElem?_take_of_lt z] at e1
        have := List.getElem?_inj (List.getElem?_eq_some_iff.mp e1).1 gnd |>.mp (e1.trans hleaf.symm)
        omega
      refine seq_cut (fun σ' H' => σ' = [some (.ref t1), some (.ref t2), some (.ref pr), some (.ref pd), some (.int (i : Nat)), some (.str (S leaf)), some (.int (j : Nat))] ∧ H' = H5) (fun D2 hrt2 hn2 => ?_) ?_
      · simp only [tBM, L2.start, cxOf, tRet, tAndV, tOrV, tNotV, tCB, tCons, tNil, tVar, tC, tOp, tUn, tTest, tB, tIf, tIfS, tSeq, tAsg, tAnd, tOr, tNot, gName, tNext, tCall, tChain, rI, rI0, rEq, rNe, rGcd, rU, tM1, tM0, tSl, tPart, tNoPart, gTup, gCons, gNil, gSub, tTup, tLst, tPar, L2.rI, List.map_cons, List.map_nil, List.length_cons, List.length_nil, List.cons_append, List.nil_append, List.append_nil, List.getElem?_cons_zero, List.getElem?_cons_succ, List.set_cons_zero, List.set_cons_succ, Option.some.injEq, exists_eq_left, exists_eq_left', exists_eq_right, exists_and_left, exists_and_right, List.cons.injEq, and_true, true_and, V.int.injEq, V.str.injEq, V.bl.injEq, V.ref.injEq, List.replicate, Nat.reduceAdd, Nat.reduceSub, reduceCtorEq, false_and, and_false, if_true, if_false, Bool.false_eq_true, Bool.not_true, Bool.not_false, decide_eq_true_eq, exists_false, or_false, false_or]
        refine ⟨.inl ⟨rfl, _, SqL.of hr5⟩, pr, _, _, j, V.str (S leaf), rfl, rfl, SqL.of hr5, rfl, by simp [flatV], by rw [List.getElem?_map, hj]; rfl, by simp [eqV], fun k z hk hz => ?_, hn2 _ _ ⟨rfl, rfl⟩⟩
        rw [List.getElem?_map] at hz
        obtain ⟨o, ho, rfl⟩ := Option.map_eq_some_iff.mp hz
        have ne2 : o ≠ leaf := fun z => by
          rw [z] at ho
          have := List.getElem?_inj (List.getElem?_eq_some_iff.mp ho).1 nd3 |>.mp (ho.trans hj.symm)
          omega
        simp only [eqV]
        exact beq_false_of_ne fun z => ne2 (SX.S_inj z)
      rintro σ' H' ⟨rfl, rfl⟩
      refine ⟨fun n σ' H' => ∃ a : Nat, n = a - i ∧ σ' = [some (.ref t1), some (.ref t2), some (.ref pr), some (.ref pd), some (.int (i : Nat)), some (.str (S leaf)), some (.int (a : Nat))] ∧ OdW H pr pd row goal i leaf a H', ⟨_, j, rfl, rfl, keep5, row', ds, hr5, hd5, pm3, tk3, lij, hj, by omega, wk3, dt5⟩, ?_⟩
      clear hj dt5 dt3 ejx lj lij hr5 hd5 keep5 pm3 tk3 ln3 wk3 hr3 hd3 keep nd3 lr hT
      rintro n σ' H6 ⟨a, rfl, rfl, keep6, rw6, es, hr6, hd6, pm6, tk6, ia, ha, ln6, wk6, dt6⟩
      simp only [L2.start, cxOf, tRet, tAndV, tOrV, tNotV, tCB, tCons, tNil, tVar, tC, tOp, tUn, tTest, tB, tSeq, tAsg, tNot, gName, tNext, tCall, tChain, rI, rI0, rEq, rNe, rGcd, rU, tM1, tM0, tSl, tPart, tNoPart, gTup, gCons, gNil, gSub, tTup, tLst, tPar, L2.rI, List.map_cons, List.map_nil, List.length_cons, List.length_nil, List.cons_append, List.nil_append, List.append_nil, List.getElem?_cons_zero, List.getElem?_cons_succ, List.set_cons_zero, List.set_cons_succ, Option.some.injEq, exists_eq_left, exists_eq_left', exists_eq_right, exists_and_left, exists_and_right, List.cons.injEq, and_true, true_and, V.int.injEq, V.str.injEq, V.bl.injEq, V.ref.injEq, List.replicate, Nat.reduceAdd, Nat.reduceSub, reduceCtorEq, false_and, and_false, if_true, if_false, Bool.false_eq_true, Bool.not_true, Bool.not_false, decide_eq_true_eq, exists_false, or_false, false_or]
      by_cases c : (i : Int) < (a : Int)
      · rw [if_pos c]
        have la : a < rw6.length := (List.getElem?_eq_some_iff.mp ha).1
        refine ⟨fun σ' H' => σ' = [some (.ref t1), some (.ref t2), some (.ref pr), some (.ref pd), some (.int (i : Nat)), some (.str (S leaf)), some (.int ((a - 1 : Nat) : Int))] ∧ OdW H pr pd row goal i leaf (a - 1) H', fun σ' H' h => ⟨a - 1 - i, by omega, a - 1, rfl, h.1, h.2⟩, ?_⟩
        obtain ⟨ws, x, y, r, rfl, lw⟩ := P22.cut_at (row := rw6) (i := a - 1) (by omega)
        have ea : a = ws.length + 1 := by omega
        subst ea
        rw [P22.at_s] at ha
        cases ha
        simp only [Nat.add_sub_cancel, tAug, ipI, tDrop, tBM, L2.start, cxOf, tRet, tAndV, tOrV, tNotV, tCB, tCons, tNil, tVar, tC, tOp, tUn, tTest, tB, tIf, tIfS, tSeq, tAsg, tAnd, tOr, tNot, gName, tNext, tCall, tChain, rI, rI0, rEq, rNe, rGcd, rU, tM1, tM0, tSl, tPart, tNoPart, gTup, gCons, gNil, gSub, tTup, tLst, tPar, L2.rI, List.map_cons, List.map_nil, List.length_cons, List.length_nil, List.cons_append, List.nil_append, List.append_nil, List.getElem?_cons_zero, List.getElem?_cons_succ, List.set_cons_zero, List.set_cons_succ, Option.some.injEq, exists_eq_left, exists_eq_left', exists_eq_right, exists_and_left, exists_and_right, List.cons.injEq, and_true, true_and, V.int.injEq, V.str.injEq, V.bl.injEq, V.ref.injEq, List.replicate, Nat.reduceAdd, Nat.reduceSub, reduceCtorEq, false_and, and_false, if_true, if_false, Bool.false_eq_true, Bool.not_true, Bool.not_false, decide_eq_true_eq, exists_false, or_false, false_or]
        have e0 : ((ws.length + 1 : Nat) : Int) - 1 = ((ws.length : Nat) : Int) := by omega
        rw [e0]
        have few6 : Few (ws ++ x :: leaf :: r) := ⟨by rw [pm6.length_eq]; exact few.1, fun u hu => few.2 u (pm6.mem_iff.mp hu)⟩
        have nd6 : (ws ++ x :: leaf :: r).Nodup := pm6.nodup_iff.mpr nd
        have lex : (P22.exch x leaf r).length ≤ 3 := by
          unfold P22.exch
          by_cases c : r = []
          · rw [if_pos c]; simp
          · rw [if_neg c]; simp
        have il : i < 24 := by
          have : (wsV goal).length = goal.length := List.length_map _
          omega
        refine ⟨.inl ⟨rfl, _, SqL.of hd6⟩, pr, ws, x, leaf, r, rfl, hr6, few6, fun H7 p7 s7 np7 hp7 => ?_⟩
        refine ⟨pd, p7, _, _, rfl, rfl, s7 _ _ hd6, hp7, by rw [List.length_map, List.length_map]; omega, ?_⟩
        have hr8 : upd H7 pd (.lst (es.map dV ++ (P22.exch x leaf r).map dV)) pr = some (wordsV (ws ++ x :: leaf :: r)) := by
          rw [upd_ne (Ne.symm npr2)]
          exact s7 _ _ hr6
        have hd8 : upd H7 pd (.lst (es.map dV ++ (P22.exch x leaf r).map dV)) pd = some (.lst (es.map dV ++ (P22.exch x leaf r).map dV)) := upd_same
        have keep8 : ∀ b u, b ≠ pr → b ≠ pd → H b = some u → upd H7 pd (.lst (es.map dV ++ (P22.exch x leaf r).map dV)) b = some u := fun b u n1 n2 e => by
          rw [upd_ne n2]
          exact s7 _ _ (keep6 b u n1 n2 e)
        generalize upd H7 pd (.lst (es.map dV ++ (P22.exch x leaf r).map dV)) = H8 at hr8 hd8 keep8 ⊢
        have a0 : atI (wsV (ws ++ x :: leaf :: r)) ((ws.length : Nat) : Int) = some (V.str (S x)) := atI_nat (by rw [List.getElem?_map, P22.at_f]; rfl)
        have a1 : atI (wsV (ws ++ x :: leaf :: r)) (((ws.length : Nat) : Int) + 1) = some (V.str (S leaf)) := by
          rw [show ((ws.length : Nat) : Int) + 1 = ((ws.length + 1 : Nat) : Int) by omega]
          exact atI_nat (by rw [List.getElem?_map, P22.at_s]; rfl)
        refine ⟨pr, _, _, V.str (S leaf), rfl, rfl, SqL.of hr8, a1, pr, _, _, V.str (S x), rfl, rfl, SqL.of hr8, a0, small (by decide), fun p9 hp9 => ⟨_, sqT_of upd_same, rfl, _, _, rfl, ?_⟩⟩
        have sp9 := same_new (o := .tup [V.str (S leaf), V.str (S x)]) hp9
        have i0 : ixN (wsV (ws ++ x :: leaf :: r)).length ((ws.length : Nat) : Int) = some ws.length := ixN_at (by rw [List.length_map, List.length_append, List.length_cons]; omega)
        refine ⟨pr, _, _, ws.length, rfl, rfl, sp9 _ _ hr8, i0, _, _, rfl, ?_⟩
        have i1 : ixN ((wsV (ws ++ x :: leaf :: r)).set ws.length (V.str (S leaf))).length (((ws.length : Nat) : Int) + 1) = some (ws.length + 1) := by
          rw [show ((ws.length : Nat) : Int) + 1 = ((ws.length + 1 : Nat) : Int) by omega]
          exact ixN_at (by rw [List.length_set, List.length_map, List.length_append, List.length_cons, List.length_cons]; omega)
        refine ⟨pr, _, _, ws.length + 1, rfl, rfl, upd_same, i1, rfl, rfl, fun b u n1 n2 e => ?_, ws ++ leaf :: x :: r, es ++ P22.exch x leaf r, ?_, ?_, P22.swap_perm.trans pm6, ?_, by omega, P22.at_f, ?_, wk6.app (P22.exch_walks nd6), ?_⟩
        · rw [upd_ne n1, upd_ne n1]
          exact sp9 _ _ (keep8 b u n1 n2 e)
        · rw [upd_same]
          have e := congrArg wordsV (P22.at_set (ws := ws) (r := r) (f := x) (s := leaf))
          rw [← e]
          unfold wordsV
          rw [List.map_set, List.map_set]
        · rw [upd_ne npr2, upd_ne npr2, sp9 _ _ hd8, List.map_append]
        · rw [← tk6, List.take_append_of_le_length (by omega), List.take_append_of_le_length (by omega)]
        · rw [List.length_append]
          omega
        · rw [← dt6, show ws.length + 1 - i = ws.length - i + 1 by omega, sink_step]
          simp only [List.append_assoc]
      · rw [if_neg c]
        have ea : a = i := by omega
        subst ea
        refine ⟨⟨_, rfl⟩, keep6, rw6, es, hr6, hd6, pm6, ?_, by omega, wk6, by rw [← dt6, Nat.sub_self]; rfl⟩
        rw [List.take_succ, List.take_succ, tk6, ha, hleaf]
    rintro σ' H3 ⟨⟨y4, y5, y6, rfl⟩, keep, row', ds, hr3, hd3, pm3, tk3, ln3, wk3, dt3⟩
    have e : row' = goal := by
      rw [List.take_length] at tk3
      rw [← tk3, glen, ← pm3.length_eq, List.take_length]
    simp only [L2.start, cxOf, tRet, tAndV, tOrV, tNotV, tCB, tCons, tNil, tVar, tC, tOp, tUn, tTest, tB, tIf, tIfS, tSeq, tAsg, tAnd, tOr, tNot, gName, tNext, tCall, tChain, rI, rI0, rEq, rNe, rGcd, rU, tM1, tM0, tSl, tPart, tNoPart, gTup, gCons, gNil, gSub, tTup, tLst, tPar, L2.rI, List.map_cons, List.map_nil, List.length_cons, List.length_nil, List.cons_append, List.nil_append, List.append_nil, List.getElem?_cons_zero, List.getElem?_cons_succ, List.set_cons_zero, List.set_cons_succ, Option.some.injEq, exists_eq_left, exists_eq_left', exists_eq_right, exists_and_left, exists_and_right, List.cons.injEq, and_true, true_and, V.int.injEq, V.str.injEq, V.bl.injEq, V.ref.injEq, List.replicate, Nat.reduceAdd, Nat.reduceSub, reduceCtorEq, false_and, and_false, if_true, if_false, Bool.false_eq_true, Bool.not_true, Bool.not_false, decide_eq_true_eq, exists_false, or_false, false_or]
    rw [e] at wk3
    exact q H3 pd ds (fun b u e => keep b u (ne_of_none e npr) (ne_of_none e npd) e) npd hd3 (by omega) wk3 (by rw [List.drop_length] at dt3; simpa [ordD] using dt3)
end
end W22

set_option Elab.async false
set_option linter.all false
set_option maxRecDepth 100000
set_option maxHeartbeats 4000000
/-! CD22: comb_deeds -/
namespace P22
open Tr
def ns : Tr → Nat
  | leaf _ => 0
  | node l r => size l + ns r
theorem steps_ns (t : Tr) : (steps t).length = ns t := by
  induction t using steps.induct with
  | case1 w =>
    rw [steps]
    rfl
  | case2 w r ih =>
    rw [steps, ih]
    simp [ns, size]
  | case3 a b r ih =>
    rw [steps, List.length_cons, ih]
    simp only [ns, size]
    omega
theorem ns_le : ∀ t : Tr, ns t ≤ size t
  | leaf _ => Nat.le_refl _
  | node l r => by
    have := ns_le r
    simp only [ns, size]
    omega
theorem size_leaves : ∀ t : Tr, size t + 1 = (leaves t).length
  | leaf _ => rfl
  | node l r => by
    have := size_leaves l
    have := size_leaves r
    simp only [leaves, List.length_append, size]
    omega
end P22
namespace W22
open PySem PySem.Spec PyProof.Rows L2 Lay
open SX (S S_len S_cat S_tl)
open C8 (Cal pe_c pe_gc fnScope_by E0)
/-- the pairs of a right turn's text and its way back -/
def PairsAt (H : Hp) (p : Addr) (st : List (P22.Tr × P22.Tr)) : Prop := ∃ ts, H p = some (.lst ts) ∧ Paired (fun (q : P22.Tr × P22.Tr) v => ∃ a, v = .ref a ∧ H a = some (.tup [dV (1, q.1), dV (2, q.2)])) st ts
theorem dc_tupE {K : PySem.W.Frag} {tl : TE} {g : TG} {tt : TT} {tk tv : TE} {vs : List Nat} {σ : L2.St} {H : Hp} {Q : VK} {a : Addr} {xs : List V} (h : ∀ R : VK, R (.ref a) H → tl σ H R) (hx : SqT K H a xs)
    (k : ∀ D, H D = none → ∃ Pv : Nat → Hp → Prop, Pv 0 (upd H D (.dK [])) ∧ (∀ i H', i ≤ xs.length → Pv i H' → SqT K H' a xs) ∧
      (∀ i x H', xs[i]? = some x → Pv i H' → g x (wipe σ vs) H' fun σ2 H2 => wipe σ2 vs = wipe σ vs ∧ tt σ2 H2 fun b H3 =>
        if b = true then tk σ2 H3 fun y H4 => tv σ2 H4 fun z H5 => ∃ kvs k, y = kV k ∧ H5 D = some (.dK kvs) ∧ kvs.length < sizeLine ∧ Pv (i + 1) (upd H5 D (.dK (putK kvs k z))) else Pv (i + 1) H3) ∧
      ∀ H', Pv xs.length H' → Q (.ref D) H') : tDc (iTup K tl) g tt tk tv vs σ H Q :=
  h _ ⟨a, rfl, ⟨xs, hx⟩, fun D hD => by
    obtain ⟨Pv, h0, h1, h2, h3⟩ := k D hD
    exact dc_tup Pv h0 h1 h2 h3⟩
theorem paired_snoc {α β : Type} {R : α → β → Prop} {x : α} {y : β} : ∀ {xs : List α} {ys : List β}, Paired R xs ys → R x y → Paired R (xs ++ [x]) (ys ++ [y])
  | _, _, .nil, h => .cons h .nil
  | _, _, .cons r t, h => .cons r (paired_snoc t h)
/-- the dict at dh knows every node of m -/
def Knows (H : Hp) (dh : Addr) (m : P22.Tr) (k : Nat) : Prop := ∃ kvs, H dh = some (.dK kvs) ∧ kvs.length ≤ k ∧ ∀ n ∈ P22.nodes m, ∃ v, valV kvs (keyS n) = some v ∧ HalfOf H n v
/-- what stands as the walk comes to m -/
structure CdS (H : Hp) (dh pl : Addr) (T m : P22.Tr) (done : List (P22.Tr × P22.Tr)) (H' : Hp) : Prop where
  keep : ∀ b u, b ≠ dh → b ≠ pl → H b = some u → H' b = some u
  kn : Knows H' dh m (47 + 2 * done.length)
  pd : PairsAt H' pl done
  eq : done ++ P22.steps m = P22.steps T
  fine : Fine m
section
variable {P : Program} {w : World} {K : PySem.W.Frag} {mg : Str → Option Value} {base : Heap} {f CN : Addr} {fd : FuncData}
theorem sd32 : FnScope ["tree", "halves", "node", "deeds", "left", "right", "first", "second", "inner", "turned"] ["tree"] (defScope (top 32)) := fnScope_by (by decide +kernel)
def spCD (C : Addr) : Sp := fun vs H Q _ => ∃ x T, vs = [.ref x] ∧ TreeAt C H x T ∧ Fine T ∧ ∀ H' p, Same H H' → H p = none → PairsAt H' p (P22.steps T) → Q (.ref p) H'
theorem ok_cd (m : Mg K mg) (dk : DigK K) (tc : Tc K mg) (c_halves : MetN P w K mg base 3 (cT K) "halves" (spHalves (cT K) CN)) (F : Fn K "comb_deeds" 32 f fd) (g : mg "comb_deeds" = some (.ref f)) : Cal P w K mg base 4 "comb_deeds" (spCD (cT K)) [] := by
  have sc := sd32
  refine calD F g sc (fun _ _ _ _ _ _ us hl => match us, hl with | [_], _ => rfl) ?_ fun cdv A outer s H vs Q E hr h => ?_
  · rintro vs H Q E ⟨x, T, rfl, _⟩
    rfl
  · obtain ⟨x, T, rfl, tr, fine, q⟩ := h
    have room1 : (A.deeper (envOfC "comb_deeds" (defScope (top 32)) s.heap.objs.size f cdv)).units + 1 < cLine := by have := hr.un; omega
    refine ⟨_, (pss_cons (ps_setDc (i := 1) (own := [("node", 2)]) (g := gName 2) (by rfl) sc.nd rfl rfl (sw_trueD rfl rfl rfl (by decide +kernel)) (pi_tup (pe_fld (pv 0) rfl)) (blkOk_by (own := [("node", 2)]) (N := ["tree", "halves", "node", "deeds", "left", "right", "first", "second", "inner", "turned"]) (sc := defScope (top 32)) (by decide +kernel)) (fun _ _ _ _ _ => pg_name (i := 2) sc.nd rfl (.inl rfl)) (fun _ _ _ _ _ => pts_nil) (fun _ _ _ _ _ => pv 2) (fun _ _ _ _ _ => pe_mtN0 c_halves hr (by decide) (pv 0) (pa_cons (pv 2) pa_nil)))
      (pss_cons (ps_set (i := 3) sc.nd rfl (.inl rfl) (pe_lst pa_nil))
      (pss_cons (ps_set (i := 2) sc.nd rfl (.inl rfl) (pe_fld (pv 0) rfl))
      (pss_cons (ps_while pown (pt_cmpR op_notN (pe_dget room1 (pv 1) (pv 2) (fun _ _ => rfl)) pe_non (nomark _))
        (pss_cons (ps_asg (pe_dget room1 (pv 1) (pv 2) (fun _ _ => rfl)) (pg_tup rfl (pgs_cons (pg_name (i := 4) sc.nd rfl (.inl rfl)) (pgs_cons (pg_name (i := 5) sc.nd rfl (.inl rfl)) pgs_nil))))
        (pss_one (ps_if (pt_cmpR op_isN (pe_dget room1 (pv 1) (pv 4) (fun _ _ => rfl)) pe_non (nomark _))
          (pss_one (ps_set (i := 2) sc.nd rfl (.inl rfl) (pv 5)))
          (pss_cons (ps_asg (pe_dget room1 (pv 1) (pv 4) (fun _ _ => rfl)) (pg_tup rfl (pgs_cons (pg_name (i := 6) sc.nd rfl (.inl rfl)) (pgs_cons (pg_name (i := 7) sc.nd rfl (.inl rfl)) pgs_nil))))
          (pss_cons (ps_set (i := 8) sc.nd rfl (.inl rfl) (pe_joined (.cons pe_str (.cons (pe_fmtB rfl dk (pv 7)) (.cons pe_str (.cons (pe_fmtB rfl dk (pv 5)) (.cons pe_str PJ.nil)))))))
          (pss_cons (ps_set (i := 9) sc.nd rfl (.inl rfl) (pe_joined (.cons pe_str (.cons (pe_fmtB rfl dk (pv 6)) (.cons pe_str (.cons (pe_fmtB rfl dk (pv 8)) (.cons pe_str PJ.nil)))))))
          (pss_cons (ps_asg (pe_tup (pa_cons (pv 7) (pa_cons (pv 5) pa_nil))) (pg_sub (pv 1) (pv 8) (set_dict room1)))
          (pss_cons (ps_asg (pe_tup (pa_cons (pv 6) (pa_cons (pv 8) pa_nil))) (pg_sub (pv 1) (pv 9) (set_dict room1)))
          (pss_cons (ps_expr (pe_bm PySem.F.plainAttrs_list PySem.F.slot_list_append PySem.F.type_list_append mt_append (pv 3) (pa_cons (pe_tup (pa_cons (pe_joined (.cons pe_str (.cons (pe_fmtB rfl dk (pv 2)) PJ.nil))) (pa_cons (pe_joined (.cons pe_str (.cons (pe_fmtB rfl dk (pv 9)) PJ.nil))) pa_nil))) pa_nil)))
          (pss_one (ps_set (i := 2) sc.nd rfl (.inl rfl) (pv 9)))))))))))))
      (pss_one (ps_ret (pv 3))))))), ?_⟩
    obtain ⟨dx, lv, nd, d, lo, ab, hx, hlv, hnd, hd, hlo, hab⟩ := id tr
    have szl := sizeLine_eq
    have n47 := fine.nodes
    refine seq_cut (fun σ' H' => ∃ dh, σ' = [some (.ref x), some (.ref dh), none, none, none, none, none, none, none, none] ∧ Same H H' ∧ H dh = none ∧ Knows H' dh T 47) (fun D' hrt hn => ?_) ?_
    · refine dc_tupE (a := nd) (xs := (P22.nodes T).map spV) (fun R k => ⟨.ref x, rfl, x, _, dx, _, .ref nd, rfl, hx, tc.cls, tc.fld _ (by decide), rfl, k⟩) (sqT_of hnd) fun D hD => ⟨fun i H' => Same H H' ∧ ∃ kvs, H' D = some (.dK kvs) ∧ kvs.length ≤ i ∧ ∀ (j : Nat) n, j < i → (P22.nodes T)[j]? = some n → ∃ v, valV kvs (keyS n) = some v ∧ HalfOf H' n v, ⟨same_new hD, [], upd_same, Nat.le_refl _, fun j n z => absurd z (Nat.not_lt_zero _)⟩, fun i H' hi h => sqT_of (h.1 _ _ hnd), ?_, ?_⟩
      · rintro i z H' hz ⟨sH, kvs, hDD, kl, kn⟩
        rw [List.getElem?_map] at hz
        obtain ⟨n, hn', rfl⟩ := Option.map_eq_some_iff.mp hz
        have nm := List.mem_of_getElem? hn'
        have li : i < (P22.nodes T).length := (List.getElem?_eq_some_iff.mp hn').1
        unfold gName tYes tVar tMethN tCons tNil
        refine ⟨rfl, ?_⟩
        dsimp only
        rw [if_pos rfl]
        refine ⟨spV n, rfl, .ref x, rfl, x, dx, _, rfl, sH _ _ hx, rfl, spV n, rfl, ?_⟩
        show spHalves (cT K) CN [.ref x, spV n] H' _ _
        refine ⟨x, T, n, rfl, tr.same sH, fine.ok, fine.nd, (fine.sub nm).ok, ?_⟩
        rw [if_pos nm]
        have halfU : ∀ {n' : P22.Tr} {u z : V} {kk : List (Key × V)}, HalfOf H' n' u → HalfOf (upd H' D (.dK kk)) n' u := fun hu => hu.mono fun t l r z => by
          rw [upd_ne fun z' => by rw [z', hDD] at z; cases z]
          exact z
        refine fun v hv => ⟨kvs, keyS n, rfl, hDD, by omega, fun b u e => ?_, _, upd_same, Nat.le_trans putK_len (Nat.succ_le_succ kl), fun j n' hj hn2 => ?_⟩
        · rw [upd_ne (ne_of_none e hD)]
          exact sH _ _ e
        · rw [valV_put]
          have nm' := List.mem_of_getElem? hn2
          by_cases e : keyS n' = keyS n
          · have en : n' = n := P22.spell_inj (fine.sub nm').ok (fine.sub nm).ok (SX.S_inj (Sum.inr.inj e))
            subst en
            rw [if_pos rfl]
            exact ⟨v, rfl, halfU (z := .non) hv⟩
          · rw [if_neg e]
            have ji : j < i := by
              rcases Nat.lt_or_ge j i with z | z
              · exact z
              · have : j = i := by omega
                subst this
                rw [hn2] at hn'
                cases hn'
                exact absurd rfl e
            obtain ⟨u, hu, hh⟩ := kn j n' ji hn2
            exact ⟨u, hu, halfU (z := .non) hh⟩
      · rintro H' ⟨sH, kvs, hDD, kl, kn⟩
        rw [List.length_map] at kl kn
        refine hn _ _ ⟨D, rfl, sH, hD, kvs, hDD, by omega, fun n hn2 => ?_⟩
        obtain ⟨j, hj⟩ := List.getElem?_of_mem hn2
        exact kn j n (List.getElem?_eq_some_iff.mp hj).1 hj
    rintro σ' H1 ⟨dh, rfl, s1, ndh, kn1⟩
    refine seq_cut (fun σ' H' => ∃ pl, σ' = [some (.ref x), some (.ref dh), none, some (.ref pl), none, none, none, none, none, none] ∧ Same H H' ∧ H pl = none ∧ pl ≠ dh ∧ H' pl = some (.lst []) ∧ Knows H' dh T 47) (fun D' hrt hn => ?_) ?_
    · simp only [L2.start, cxOf, tRet, tAndV, tOrV, tNotV, tCB, tCons, tNil, tVar, tC, tOp, tUn, tTest, tB, tIf, tIfS, tSeq, tAsg, tAnd, tOr, tNot, gName, tNext, tCall, tChain, rI, rI0, rEq, rNe, rGcd, rU, tM1, tM0, tSl, tPart, tNoPart, gTup, gCons, gNil, gSub, tTup, tLst, tPar, L2.rI, List.map_cons, List.map_nil, List.length_cons, List.length_nil, List.cons_append, List.nil_append, List.append_nil, List.getElem?_cons_zero, List.getElem?_cons_succ, List.set_cons_zero, List.set_cons_succ, Option.some.injEq, exists_eq_left, exists_eq_left', exists_eq_right, exists_and_left, exists_and_right, List.cons.injEq, and_true, true_and, V.int.injEq, V.str.injEq, V.bl.injEq, V.ref.injEq, List.replicate, Nat.reduceAdd, Nat.reduceSub, reduceCtorEq, false_and, and_false, if_true, if_false, Bool.false_eq_true, Bool.not_true, Bool.not_false, decide_eq_true_eq, exists_false, or_false, false_or]
      refine ⟨small (by decide), fun p hp => hn _ _ ⟨p, rfl, s1.trans (same_new hp), s1.fresh hp, ?_, upd_same, ?_⟩⟩
      · obtain ⟨kvs, h1, _⟩ := kn1
        intro z
        rw [z, h1] at hp
        cases hp
      · obtain ⟨kvs, h1, h2, h3⟩ := kn1
        refine ⟨kvs, same_new hp _ _ h1, h2, fun n hn2 => ?_⟩
        obtain ⟨v, e1, e2⟩ := h3 n hn2
        exact ⟨v, e1, e2.mono fun t l r z => same_new hp _ _ z⟩
    rintro σ' H2 ⟨pl, rfl, s2, npl, pldh, hpl, kn2⟩
    refine seq_cut (fun σ' H' => σ' = [some (.ref x), some (.ref dh), some (spV T), some (.ref pl), none, none, none, none, none, none] ∧ H' = H2) (fun D' hrt hn => ?_) ?_
    · simp only [tFld, L2.start, cxOf, tRet, tAndV, tOrV, tNotV, tCB, tCons, tNil, tVar, tC, tOp, tUn, tTest, tB, tIf, tIfS, tSeq, tAsg, tAnd, tOr, tNot, gName, tNext, tCall, tChain, rI, rI0, rEq, rNe, rGcd, rU, tM1, tM0, tSl, tPart, tNoPart, gTup, gCons, gNil, gSub, tTup, tLst, tPar, L2.rI, List.map_cons, List.map_nil, List.length_cons, List.length_nil, List.cons_append, List.nil_append, List.append_nil, List.getElem?_cons_zero, List.getElem?_cons_succ, List.set_cons_zero, List.set_cons_succ, Option.some.injEq, exists_eq_left, exists_eq_left', exists_eq_right, exists_and_left, exists_and_right, List.cons.injEq, and_true, true_and, V.int.injEq, V.str.injEq, V.bl.injEq, V.ref.injEq, List.replicate, Nat.reduceAdd, Nat.reduceSub, reduceCtorEq, false_and, and_false, if_true, if_false, Bool.false_eq_true, Bool.not_true, Bool.not_false, decide_eq_true_eq, exists_false, or_false, false_or]
      exact ⟨_, _, _, s2 _ _ hx, tc.cls, tc.fld _ (by decide), _, rfl, hn _ _ ⟨rfl, rfl⟩⟩
    rintro σ' H' ⟨rfl, rfl⟩
    refine seq_cut (fun σ' H'' => ∃ y2 y4 y5 y6 y7 y8 y9, σ' = [some (.ref x), some (.ref dh), y2, some (.ref pl), y4, y5, y6, y7, y8, y9] ∧ Same H H'' ∧ PairsAt H'' pl (P22.steps T)) (fun D' hrt hn => ?_) ?_
    · refine ⟨fun n σ' H'' => ∃ m done y4 y5 y6 y7 y8 y9, n = P22.ns m + P22.size m ∧ σ' = [some (.ref x), some (.ref dh), some (spV m), some (.ref pl), y4, y5, y6, y7, y8, y9] ∧ CdS H dh pl T m done H'', ⟨_, T, [], none, none, none, none, none, none, rfl, rfl, fun b u _ _ e => s2 _ _ e, kn2, ⟨[], hpl, .nil⟩, rfl, fine⟩, ?_⟩
      clear hpl kn2 s2 s1 kn1
      rintro n σ' H3 ⟨m, done, y4, y5, y6, y7, y8, y9, rfl, rfl, cd⟩
      have stl : done.length + (P22.steps m).length = (P22.steps T).length := by
        rw [← cd.eq, List.length_append]
      have stT : (P22.steps T).length ≤ 23 := by
        rw [P22.steps_ns]
        have := P22.ns_le T
        have := P22.size_leaves T
        have := fine.few
        omega
      obtain ⟨kvs, hk, kl, kn⟩ := cd.kn
      obtain ⟨v, hv, hf⟩ := kn m (P22.self_in m)
      simp only [tDGet, L2.start, cxOf, tRet, tAndV, tOrV, tNotV, tCB, tCons, tNil, tVar, tC, tOp, tUn, tTest, tB, tSeq, tAsg, tNot, gName, tNext, tCall, tChain, rI, rI0, rEq, rNe, rGcd, rU, tM1, tM0, tSl, tPart, tNoPart, gTup, gCons, gNil, gSub, tTup, tLst, tPar, L2.rI, List.map_cons, List.map_nil, List.length_cons, List.length_nil, List.cons_append, List.nil_append, List.append_nil, List.getElem?_cons_zero, List.getElem?_cons_succ, List.set_cons_zero, List.set_cons_succ, Option.some.injEq, exists_eq_left, exists_eq_left', exists_eq_right, exists_and_left, exists_and_right, List.cons.injEq, and_true, true_and, V.int.injEq, V.str.injEq, V.bl.injEq, V.ref.injEq, List.replicate, Nat.reduceAdd, Nat.reduceSub, reduceCtorEq, false_and, and_false, if_true, if_false, Bool.false_eq_true, Bool.not_true, Bool.not_false, decide_eq_true_eq, exists_false, or_false, false_or]
      refine ⟨v, hv ▸ DGet.k (k := keyS m) hk, ?_⟩
      cases m with
      | leaf u =>
        have hv0 : v = .non := hf
        rw [if_neg (by simp [hv0])]
        have e := cd.eq
        rw [P22.steps, List.append_nil] at e
        exact hn _ _ ⟨_, _, _, _, _, _, _, rfl, fun b u e => cd.keep b u (ne_of_none e ndh) (ne_of_none e npl) e, e ▸ cd.pd⟩
      | node l r =>
        obtain ⟨t, rfl, ht⟩ : ∃ t, v = .ref t ∧ H3 t = some (.tup [spV l, spV r]) := hf
        rw [if_pos (by simp)]
        refine ⟨fun σ' H'' => ∃ m' done', P22.ns m' + P22.size m' < P22.ns (.node l r) + P22.size (.node l r) ∧ (∃ y4 y5 y6 y7 y8 y9, σ' = [some (.ref x), some (.ref dh), some (spV m'), some (.ref pl), y4, y5, y6, y7, y8, y9]) ∧ CdS H dh pl T m' done' H'', fun σ' H'' h => ?_, ?_⟩
        · obtain ⟨m', done', lt, ⟨y4, y5, y6, y7, y8, y9, e⟩, c⟩ := h
          exact ⟨_, lt, m', rfl, ⟨y4, y5, y6, y7, y8, y9, e⟩, done', c⟩
        refine ⟨.ref t, hv ▸ DGet.k (k := keyS (.node l r)) hk, t, rfl, _, sqT_of ht, rfl, _, _, rfl, _, _, rfl, rfl, ?_⟩
        have ml : l ∈ P22.nodes (.node l r) := List.mem_append_left _ (List.mem_append_left _ (P22.self_in l))
        obtain ⟨v2, hv2, hf2⟩ := kn l ml
        simp only [tIfS, tDGet, L2.start, cxOf, tRet, tAndV, tOrV, tNotV, tCB, tCons, tNil, tVar, tC, tOp, tUn, tTest, tB, tSeq, tAsg, tNot, gName, tNext, tCall, tChain, rI, rI0, rEq, rNe, rGcd, rU, tM1, tM0, tSl, tPart, tNoPart, gTup, gCons, gNil, gSub, tTup, tLst, tPar, L2.rI, List.map_cons, List.map_nil, List.length_cons, List.length_nil, List.cons_append, List.nil_append, List.append_nil, List.getElem?_cons_zero, List.getElem?_cons_succ, List.set_cons_zero, List.set_cons_succ, Option.some.injEq, exists_eq_left, exists_eq_left', exists_eq_right, exists_and_left, exists_and_right, List.cons.injEq, and_true, true_and, V.int.injEq, V.str.injEq, V.bl.injEq, V.ref.injEq, List.replicate, Nat.reduceAdd, Nat.reduceSub, reduceCtorEq, false_and, and_false, if_true, if_false, Bool.false_eq_true, Bool.not_true, Bool.not_false, decide_eq_true_eq, exists_false, or_false, false_or]
        refine ⟨v2, hv2 ▸ DGet.k (k := keyS l) hk, ?_⟩
        cases l with
        | leaf u =>
          have hv0 : v2 = .non := hf2
          rw [if_pos hv0]
          refine ⟨r, by simp only [P22.ns, P22.size]; omega, ⟨rfl, _, rfl⟩, done, cd.keep, ⟨kvs, hk, kl, fun n hn2 => kn n (List.mem_append_left _ (List.mem_append_right _ hn2))⟩, cd.pd, ?_, cd.fine.sub (List.mem_append_left _ (List.mem_append_right _ (P22.self_in r)))⟩
          have e := cd.eq
          rw [P22.steps] at e
          exact e
        | node a b =>
          obtain ⟨t2, rfl, ht2⟩ : ∃ t, v2 = .ref t ∧ H3 t = some (.tup [spV a, spV b]) := hf2
          rw [if_neg (by simp)]
          refine ⟨.ref t2, hv2 ▸ DGet.k (k := keyS (.node a b)) hk, t2, rfl, _, sqT_of ht2, rfl, _, _, rfl, _, _, rfl, rfl, ?_⟩
          simp only [tDGet, tDrop, tBM, L2.start, cxOf, tRet, tAndV, tOrV, tNotV, tCB, tCons, tNil, tVar, tC, tOp, tUn, tTest, tB, tSeq, tAsg, tNot, gName, tNext, tCall, tChain, rI, rI0, rEq, rNe, rGcd, rU, tM1, tM0, tSl, tPart, tNoPart, gTup, gCons, gNil, gSub, tTup, tLst, tPar, L2.rI, List.map_cons, List.map_nil, List.length_cons, List.length_nil, List.cons_append, List.nil_append, List.append_nil, List.getElem?_cons_zero, List.getElem?_cons_succ, List.set_cons_zero, List.set_cons_succ, Option.some.injEq, exists_eq_left, exists_eq_left', exists_eq_right, exists_and_left, exists_and_right, List.cons.injEq, and_true, true_and, V.int.injEq, V.str.injEq, V.bl.injEq, V.ref.injEq, List.replicate, Nat.reduceAdd, Nat.reduceSub, reduceCtorEq, false_and, and_false, if_true, if_false, Bool.false_eq_true, Bool.not_true, Bool.not_false, decide_eq_true_eq, exists_false, or_false, false_or]
          have fm := cd.fine
          have fL := fm.sub ml
          have fa := (fL.sub (List.mem_append_left _ (List.mem_append_left _ (P22.self_in a)))).len
          have fb := (fL.sub (List.mem_append_left _ (List.mem_append_right _ (P22.self_in b)))).len
          have fr := (fm.sub (List.mem_append_left _ (List.mem_append_right _ (P22.self_in r)))).len
          have ft : Fine (.node a (.node b r)) := fm.perm (by simp only [P22.leaves, List.append_assoc]; exact List.Perm.refl _)
          have fi : Fine (.node b r) := ft.sub (List.mem_append_left _ (List.mem_append_right _ (P22.self_in _)))
          have fil := fi.len
          have ftl := ft.len
          have fml := fm.len
          obtain ⟨ts, hts, prs⟩ := cd.pd
          have ltd : done.length = ts.length := prs.length
          refine js_all (acc := []) (ys := [[40], P22.spell b, [32], P22.spell r, [41]]) ⟨piece_c (by decide +kernel), piece_f (by omega) fun R k => ⟨_, rfl, k⟩, piece_c (by decide +kernel), piece_f (by omega) fun R k => ⟨_, rfl, k⟩, piece_c (by decide +kernel), trivial⟩ ?_ ?_
          · simp only [List.flatten_cons, List.flatten_nil, List.length_append, List.length_cons, List.length_nil]
            omega
          rw [show [] ++ [[40], P22.spell b, [32], P22.spell r, [41]].flatten = P22.spell (.node b r) by simp [P22.spell]]
          refine js_all (acc := []) (ys := [[40], P22.spell a, [32], P22.spell (.node b r), [41]]) ⟨piece_c (by decide +kernel), piece_f (by omega) fun R k => ⟨_, rfl, k⟩, piece_c (by decide +kernel), piece_f (by omega) fun R k => ⟨_, rfl, k⟩, piece_c (by decide +kernel), trivial⟩ ?_ ?_
          · simp only [List.flatten_cons, List.flatten_nil, List.length_append, List.length_cons, List.length_nil]
            omega
          rw [show [] ++ [[40], P22.spell a, [32], P22.spell (.node b r), [41]].flatten = P22.spell (.node a (.node b r)) by simp [P22.spell]]
          refine ⟨small (by decide), fun p1 hp1 => ⟨dh, _, rfl, .inl ⟨kvs, keyS (.node b r), same_new hp1 _ _ hk, rfl, by omega, rfl⟩, small (by decide), fun p2 hp2 => ⟨dh, _, rfl, .inl ⟨_, keyS (.node a (.node b r)), same_new hp2 _ _ upd_same, rfl, ?_, rfl⟩, ?_⟩⟩⟩
          · have := putK_len (kvs := kvs) (k := keyS (.node b r)) (v := .ref p1)
            omega
          have d1 : p1 ≠ dh := fun z => by rw [z, hk] at hp1; cases hp1
          have d2 : p2 ≠ dh := fun z => by rw [z, upd_same] at hp2; cases hp2
          have l1 : p1 ≠ pl := fun z => by rw [z, hts] at hp1; cases hp1
          have l2 : p2 ≠ pl := fun z => by
            rw [z, upd_ne pldh, same_new hp1 _ _ hts] at hp2
            cases hp2
          have k7 : ∀ c o, c ≠ dh → H3 c = some o → upd (upd (upd (upd H3 p1 (.tup [spV b, spV r])) dh (.dK (putK kvs (keyS (.node b r)) (.ref p1)))) p2 (.tup [spV a, spV (.node b r)])) dh (.dK (putK (putK kvs (keyS (.node b r)) (.ref p1)) (keyS (.node a (.node b r))) (.ref p2))) c = some o := fun c o n1 e => by
            rw [upd_ne n1]
            refine same_new hp2 _ _ ?_
            rw [upd_ne n1]
            exact same_new hp1 _ _ e
          have t17 : upd (upd (upd (upd H3 p1 (.tup [spV b, spV r])) dh (.dK (putK kvs (keyS (.node b r)) (.ref p1)))) p2 (.tup [spV a, spV (.node b r)])) dh (.dK (putK (putK kvs (keyS (.node b r)) (.ref p1)) (keyS (.node a (.node b r))) (.ref p2))) p1 = some (.tup [spV b, spV r]) := by
            rw [upd_ne d1]
            refine same_new hp2 _ _ ?_
            rw [upd_ne d1]
            exact upd_same
          have t27 : upd (upd (upd (upd H3 p1 (.tup [spV b, spV r])) dh (.dK (putK kvs (keyS (.node b r)) (.ref p1)))) p2 (.tup [spV a, spV (.node b r)])) dh (.dK (putK (putK kvs (keyS (.node b r)) (.ref p1)) (keyS (.node a (.node b r))) (.ref p2))) p2 = some (.tup [spV a, spV (.node b r)]) := by
            rw [upd_ne d2]
            exact upd_same
          have h77 : upd (upd (upd (upd H3 p1 (.tup [spV b, spV r])) dh (.dK (putK kvs (keyS (.node b r)) (.ref p1)))) p2 (.tup [spV a, spV (.node b r)])) dh (.dK (putK (putK kvs (keyS (.node b r)) (.ref p1)) (keyS (.node a (.node b r))) (.ref p2))) dh = some (.dK (putK (putK kvs (keyS (.node b r)) (.ref p1)) (keyS (.node a (.node b r))) (.ref p2))) := upd_same
          generalize upd (upd (upd (upd H3 p1 (.tup [spV b, spV r])) dh (.dK (putK kvs (keyS (.node b r)) (.ref p1)))) p2 (.tup [spV a, spV (.node b r)])) dh (.dK (putK (putK kvs (keyS (.node b r)) (.ref p1)) (keyS (.node a (.node b r))) (.ref p2))) = H7 at k7 t17 t27 h77 ⊢
          have hts7 := k7 pl _ pldh hts
          refine ⟨.inl ⟨rfl, _, SqL.of hts7⟩, ?_⟩
          refine js_all (acc := []) (ys := [[114, 105, 103, 104, 116, 32], P22.spell (.node (.node a b) r)]) ⟨piece_c (by decide +kernel), piece_f (by omega) fun R k => ⟨_, rfl, k⟩, trivial⟩ ?_ ?_
          · simp only [List.flatten_cons, List.flatten_nil, List.length_append, List.length_cons, List.length_nil]
            omega
          refine js_all (acc := []) (ys := [[108, 101, 102, 116, 32], P22.spell (.node a (.node b r))]) ⟨piece_c (by decide +kernel), piece_f (by omega) fun R k => ⟨_, rfl, k⟩, trivial⟩ ?_ ?_
          · simp only [List.flatten_cons, List.flatten_nil, List.length_append, List.length_cons, List.length_nil]
            omega
          refine ⟨small (by decide), fun p3 hp3 => ?_⟩
          have ex1 : S ([] ++ [[114, 105, 103, 104, 116, 32], P22.spell (.node (.node a b) r)].flatten) = S (P22.dtext (1, .node (.node a b) r)) := by simp [P22.dtext, P22.kw]
          have ex2 : S ([] ++ [[108, 101, 102, 116, 32], P22.spell (.node a (.node b r))].flatten) = S (P22.dtext (2, .node a (.node b r))) := by simp [P22.dtext, P22.kw]
          rw [ex1, ex2]
          have l3 : p3 ≠ pl := fun z => by rw [z, hts7] at hp3; cases hp3
          have k9 : ∀ c o, c ≠ pl → H7 c = some o → upd (upd H7 p3 (.tup [dV (1, .node (.node a b) r), dV (2, .node a (.node b r))])) pl (.lst (ts ++ [.ref p3])) c = some o := fun c o n e => by
            rw [upd_ne n]
            exact same_new hp3 _ _ e
          have tp9 : ∀ (c : Addr) (xs : List V), H3 c = some (.tup xs) → upd (upd H7 p3 (.tup [dV (1, .node (.node a b) r), dV (2, .node a (.node b r))])) pl (.lst (ts ++ [.ref p3])) c = some (.tup xs) := fun c xs e =>
            k9 c _ (fun z => by rw [z, hts] at e; cases e) (k7 c _ (fun z => by rw [z, hk] at e; cases e) e)
          have t39 : upd (upd H7 p3 (.tup [dV (1, .node (.node a b) r), dV (2, .node a (.node b r))])) pl (.lst (ts ++ [.ref p3])) p3 = some (.tup [dV (1, .node (.node a b) r), dV (2, .node a (.node b r))]) := by
            rw [upd_ne l3]
            exact upd_same
          have pl9 : upd (upd H7 p3 (.tup [dV (1, .node (.node a b) r), dV (2, .node a (.node b r))])) pl (.lst (ts ++ [.ref p3])) pl = some (.lst (ts ++ [.ref p3])) := upd_same
          refine ⟨pl, ts, .ref p3, rfl, rfl, same_new hp3 _ _ hts7, by omega, .node a (.node b r), by simp only [P22.ns, P22.size]; omega, ⟨rfl, _, rfl⟩, done ++ [(.node (.node a b) r, .node a (.node b r))], fun c u n1 n2 e => k9 c u n2 (k7 c u n1 (cd.keep c u n1 n2 e)), ?_, ?_, ?_, ft⟩
          · refine ⟨_, k9 dh _ (Ne.symm pldh) h77, ?_, fun n hn2 => ?_⟩
            · have := putK_len (kvs := kvs) (k := keyS (.node b r)) (v := .ref p1)
              have := putK_len (kvs := putK kvs (keyS (.node b r)) (.ref p1)) (k := keyS (.node a (.node b r))) (v := .ref p2)
              rw [List.length_append, List.length_singleton]
              omega
            · rw [valV_put]
              have fn := ft.sub hn2
              by_cases e1 : keyS n = keyS (.node a (.node b r))
              · have en : n = .node a (.node b r) := P22.spell_inj fn.ok ft.ok (SX.S_inj (Sum.inr.inj e1))
                rw [if_pos e1, en]
                exact ⟨_, rfl, p2, rfl, k9 p2 _ l2 t27⟩
              · rw [if_neg e1, valV_put]
                by_cases e2 : keyS n = keyS (.node b r)
                · have en : n = .node b r := P22.spell_inj fn.ok fi.ok (SX.S_inj (Sum.inr.inj e2))
                  rw [if_pos e2, en]
                  exact ⟨_, rfl, p1, rfl, k9 p1 _ l1 t17⟩
                · rw [if_neg e2]
                  have hm : n ∈ P22.nodes (.node (.node a b) r) := by
                    rcases List.mem_append.mp hn2 with z | z
                    · rcases List.mem_append.mp z with z | z
                      · exact List.mem_append_left _ (List.mem_append_left _ (List.mem_append_left _ (List.mem_append_left _ z)))
                      · rcases List.mem_append.mp z with z | z
                        · rcases List.mem_append.mp z with z | z
                          · exact List.mem_append_left _ (List.mem_append_left _ (List.mem_append_left _ (List.mem_append_right _ z)))
                          · exact List.mem_append_left _ (List.mem_append_right _ z)
                        · exact absurd (by rw [List.mem_singleton.mp z]) e2
                    · exact absurd (by rw [List.mem_singleton.mp z]) e1
                  obtain ⟨v3, h3, hf3⟩ := kn n hm
                  exact ⟨v3, h3, hf3.mono fun t l r z => tp9 t _ z⟩
          · refine ⟨_, pl9, paired_snoc (L2.Paired.mapP prs fun q v ⟨c, e, hc⟩ => ⟨c, e, tp9 c _ hc⟩) ⟨p3, rfl, t39⟩⟩
          · have e := cd.eq
            rw [P22.steps] at e
            rw [← e, List.append_assoc]
            rfl
    rintro σ' H3 ⟨y2, y4, y5, y6, y7, y8, y9, rfl, s3, p3⟩
    simp only [L2.start, cxOf, tRet, tAndV, tOrV, tNotV, tCB, tCons, tNil, tVar, tC, tOp, tUn, tTest, tB, tIf, tIfS, tSeq, tAsg, tAnd, tOr, tNot, gName, tNext, tCall, tChain, rI, rI0, rEq, rNe, rGcd, rU, tM1, tM0, tSl, tPart, tNoPart, gTup, gCons, gNil, gSub, tTup, tLst, tPar, L2.rI, List.map_cons, List.map_nil, List.length_cons, List.length_nil, List.cons_append, List.nil_append, List.append_nil, List.getElem?_cons_zero, List.getElem?_cons_succ, List.set_cons_zero, List.set_cons_succ, Option.some.injEq, exists_eq_left, exists_eq_left', exists_eq_right, exists_and_left, exists_and_right, List.cons.injEq, and_true, true_and, V.int.injEq, V.str.injEq, V.bl.injEq, V.ref.injEq, List.replicate, Nat.reduceAdd, Nat.reduceSub, reduceCtorEq, false_and, and_false, if_true, if_false, Bool.false_eq_true, Bool.not_true, Bool.not_false, decide_eq_true_eq, exists_false, or_false, false_or]
    exact q H3 pl s3 npl p3
end
end W22

set_option Elab.async false
set_option linter.all false
set_option maxRecDepth 100000
set_option maxHeartbeats 4000000
/-! Y22b: Tree.__eq__, either answer -/
namespace W22
open PySem PySem.Spec PyProof.Rows L2 Lay
open SX (S S_len S_cat S_tl)
open C8 (Cal pe_c pe_gc fnScope_by E0)
section
variable {P : Program} {w : World} {K : PySem.W.Frag} {mg : Str → Option Value} {base : Heap} {f : Addr} {fd : FuncData}
def spEq2 (C : Addr) : Sp := fun vs H Q _ => ∃ a b T U, vs = [.ref a, .ref b] ∧ TreeAt C H a T ∧ TreeAt C H b U ∧ Q (.bl (decide (P22.spell T = P22.spell U))) H
theorem ok_eq2 (m : Mg K mg) (tc : Tc K mg) (ti : Ti K) (F : Mt K "__eq__" "Tree.__eq__" 41 5 f fd) : FnOk P w K mg base C8.CX0 1 f fd ["self", "other"] (spEq2 (cT K)) := by
  have sc := scEq
  refine F.ok sc (fun vs H Q E h => ?_) fun cdv A outer s H vs Q E hr h => ?_
  · obtain ⟨a, b, T, U, rfl, _⟩ := h
    rfl
  · obtain ⟨a, b, T, U, rfl, ta, tb, q⟩ := h
    refine ⟨_, (pss_cons (ps_if (pt_not (pt_val (pe_callB call_isi (by rfl) m.isinstance_ boot_isinstance (pa_cons (pv 1) (pa_cons (pe_gc (v := .ref (cT K)) (by rfl) ⟨_, tc.glo, rfl⟩) pa_nil)))))
        (pss_one (ps_ret pe_bl))
        pss_nil)
      (pss_one (ps_ret (pe_cmpR op_eq (pe_fld (pv 0) rfl) (pe_fld (pv 1) rfl) (nomark _))))), ?_⟩
    obtain ⟨dx, lv, nn, d, lo, ab, hx, _⟩ := ta
    obtain ⟨dx2, lv2, nn2, d2, lo2, ab2, hx2, _⟩ := tb
    simp only [L2.start, cxOf, tRet, tAndV, tOrV, tNotV, tCB, tCons, tNil, tVar, tC, tOp, tUn, tTest, tB, tIf, tIfS, tSeq, tAsg, tAnd, tOr, tNot, gName, tNext, tCall, tChain, rI, rI0, rEq, rNe, rGcd, rU, tM1, tM0, tSl, tPart, tNoPart, gTup, gCons, gNil, gSub, tTup, tLst, tPar, L2.rI, List.map_cons, List.map_nil, List.length_cons, List.length_nil, List.cons_append, List.nil_append, List.append_nil, List.getElem?_cons_zero, List.getElem?_cons_succ, List.set_cons_zero, List.set_cons_succ, Option.some.injEq, exists_eq_left, exists_eq_left', exists_eq_right, exists_and_left, exists_and_right, List.cons.injEq, and_true, true_and, V.int.injEq, V.str.injEq, V.bl.injEq, V.ref.injEq, List.replicate, Nat.reduceAdd, Nat.reduceSub, reduceCtorEq, false_and, and_false, if_true, if_false, Bool.false_eq_true, Bool.not_true, Bool.not_false, decide_eq_true_eq, exists_false, or_false, false_or, tFld]
    refine ⟨V.ref b, V.ref (cT K), .ref (cT K), .ref (cT K), true, rfl, .own _, .base (.ins hx2 tc.cls ti.cl ti.hn ti.tk ti.mo), ti.me, ?_⟩
    refine ⟨true, rfl, ?_⟩
    rw [if_neg (by simp)]
    refine ⟨_, _, _, hx, tc.cls, tc.fld _ (by decide), _, rfl, _, _, _, hx2, tc.cls, tc.fld _ (by decide), _, rfl, rfl, ?_⟩
    have e : decide (spV T = spV U) = decide (P22.spell T = P22.spell U) := by
      rw [Bool.eq_iff_iff, decide_eq_true_eq, decide_eq_true_eq]
      exact ⟨fun z => SX.S_inj (V.str.inj z), fun z => by rw [spV, spV, z]⟩
    rw [e]
    exact q
end
end W22

set_option Elab.async false
set_option linter.all false
set_option maxRecDepth 100000
set_option maxHeartbeats 4000000
/-! UN22: Unlike -/
namespace W22
open PySem PySem.Spec PyProof.Rows L2 Lay
open SX (S S_len S_cat S_tl)
open C8 (Cal pe_c pe_gc fnScope_by E0)
structure Unl (K : PySem.W.Frag) (mg : Str → Option Value) (CU fI : Addr) (fdI : FuncData) : Prop extends Rel K mg CU "Unlike" "ValueError" where
  oex : OexC K CU
  init : PySem.W.findIn K (.ref CU) "__init__" = some (some (.ref fI))
  initT : PySem.W.typeIn K (.ref fI) = some (.type "function")
  F : Mt K "__init__" "Unlike.__init__" 12 0 fI fdI
  noF : PySem.W.findIn K (.ref CU) "what" = some none
section
variable {P : Program} {w : World} {K : PySem.W.Frag} {mg : Str → Option Value} {base : Heap} {fU CU : Addr} {fdU : FuncData}
theorem scU : FnScope ["self", "what"] ["self", "what"] (defScope (inClass (top 12) 0)) := fnScope_by (by decide +kernel)
theorem ok_initU (B : Unl K mg CU fU fdU) : FnOk P w K mg base C8.CX0 1 fU fdU ["self", "what"] (spIn CU "what") := by
  refine B.F.ok scU (fun vs H Q E h => ?_) fun cdv A outer s H vs Q E hr h => ?_
  · obtain ⟨a, y, rfl, _⟩ := h
    rfl
  · obtain ⟨a, y, rfl, ha, q⟩ := h
    refine ⟨_, pss_one (ps_ost (pv 0) (pv 1)), ?_⟩
    exact ⟨y, rfl, .ref a, rfl, a, CU, rfl, B.oex, B.noF, .inl ⟨ha, q⟩⟩
end
end W22

set_option Elab.async false
set_option linter.all false
set_option maxRecDepth 100000
set_option maxHeartbeats 4000000
/-! SU22: sorted texts: two sorted rows with the same items are one (pure) -/
namespace W22
open PySem PySem.Spec PyProof.Rows L2 Lay
theorem lt_anti : ∀ {a b : List Nat}, ltCps a b = false → ltCps b a = false → a = b
  | [], [], _, _ => rfl
  | [], _ :: _, h, _ => by simp [ltCps] at h
  | _ :: _, [], _, h => by simp [ltCps] at h
  | x :: r, y :: t, h, k => by
    simp only [ltCps, Bool.or_eq_false_iff, decide_eq_false_iff_not, Bool.and_eq_false_iff, beq_eq_false_iff_ne] at h k
    have e : x = y := by omega
    subst e
    rw [lt_anti (h.2.resolve_left fun z => z rfl) (k.2.resolve_left fun z => z rfl)]
theorem le_trans' : ∀ {a b c : List Nat}, ltCps b a = false → ltCps c b = false → ltCps c a = false
  | [], _, [], _, _ => rfl
  | [], [], _ :: _, _, _ => rfl
  | [], _ :: _, _ :: _, _, _ => rfl
  | _ :: _, [], _, h, _ => by simp [ltCps] at h
  | _ :: _, _ :: _, [], _, h => by simp [ltCps] at h
  | x :: r, y :: t, z :: s, h, k => by
    simp only [ltCps, Bool.or_eq_false_iff, decide_eq_false_iff_not, Bool.and_eq_false_iff, beq_eq_false_iff_ne] at h k ⊢
    refine ⟨by omega, ?_⟩
    by_cases e : z = x
    · subst e
      have e2 : y = z := by omega
      subst e2
      exact .inr (le_trans' (h.2.resolve_left fun z => z rfl) (k.2.resolve_left fun z => z rfl))
    · exact .inl e
def LeS (a b : Str) : Prop := ltCps b.cps.toList a.cps.toList = false
theorem rising_pair : ∀ {r : List Str} {p : Str}, risingS p r = true → (p :: r).Pairwise LeS
  | [], p, _ => List.pairwise_singleton _ _
  | x :: r, p, h => by
    have h : (!ltCps x.cps.toList p.cps.toList && risingS x r) = true := h
    rw [Bool.and_eq_true, Bool.not_eq_true'] at h
    have ih := rising_pair h.2
    refine List.pairwise_cons.mpr ⟨fun y hy => ?_, ih⟩
    rcases List.mem_cons.mp hy with rfl | hy
    · exact h.1
    · exact le_trans' h.1 ((List.pairwise_cons.mp ih).1 y hy)
theorem sorted_pair {r : List Str} (h : sortedS r = true) : r.Pairwise LeS := by
  cases r with
  | nil => exact List.Pairwise.nil
  | cons p r => exact rising_pair h
theorem sorted_one : ∀ {xs ys : List Str}, xs.Pairwise LeS → ys.Pairwise LeS → xs.Perm ys → xs = ys
  | [], ys, _, _, h => (List.nil_perm.mp h).symm ▸ rfl
  | x :: xs, [], _, _, h => by
    have := h.length_eq
    simp at this
  | x :: xs, y :: ys, h1, h2, h => by
    have p1 := List.pairwise_cons.mp h1
    have p2 := List.pairwise_cons.mp h2
    have e : x = y := by
      rcases List.mem_cons.mp (h.mem_iff.mp List.mem_cons_self) with e | hx
      · exact e
      · rcases List.mem_cons.mp (h.mem_iff.mpr List.mem_cons_self) with e | hy
        · exact e.symm
        · have a1 : LeS y x := p2.1 x hx
          have a2 : LeS x y := p1.1 y hy
          have := lt_anti a1 a2
          have e3 : SX.S x.cps.toList = SX.S y.cps.toList := by rw [this]
          rw [SX.S_tl, SX.S_tl] at e3
          exact e3
    subst e
    rw [sorted_one p1.2 p2.2 (List.perm_cons _ |>.mp h)]
end W22

set_option Elab.async false
set_option linter.all false
set_option maxRecDepth 100000
set_option maxHeartbeats 4000000
/-! TB22: turns_between -/
namespace W22
open PySem PySem.Spec PyProof.Rows L2 Lay
open SX (S S_len S_cat S_tl)
open C8 (Cal pe_c pe_gc fnScope_by E0)
theorem steps_few {T : P22.Tr} (f : Fine T) : (P22.steps T).length ≤ 23 := by
  rw [P22.steps_ns]
  have := P22.ns_le T
  have := P22.size_leaves T
  have := f.few
  omega
theorem paired_at {α β : Type} {R : α → β → Prop} : ∀ {xs : List α} {ys : List β} {i : Nat} {y : β}, Paired R xs ys → ys[i]? = some y → ∃ x, xs[i]? = some x ∧ R x y
  | _, _, _, _, .nil, h => by simp at h
  | x :: xs, y :: ys, 0, _, .cons r t, h => by
    cases h
    exact ⟨x, rfl, r⟩
  | x :: xs, y :: ys, i + 1, _, .cons r t, h => paired_at (i := i) t h
/-- a comprehension that takes one of each pair -/
theorem lc_pairs {K : PySem.W.Frag} {tl te : TE} {σ : L2.St} {H : Hp} {Q : VK} {st : List (P22.Tr × P22.Tr)} {a b : Nat} (sel : P22.Tr × P22.Tr → V) (h : ∀ R : VK, (∀ H1 l, Same H H1 → H l = none → PairsAt H1 l st → R (.ref l) H1) → tl σ H R)
    (hw : ∀ x y, wipe (((wipe σ [a, b]).set a (some x)).set b (some y)) [a, b] = wipe σ [a, b]) (he : ∀ q (R : VK) H', R (sel q) H' → te (((wipe σ [a, b]).set a (some (dV (1, q.1)))).set b (some (dV (2, q.2)))) H' R)
    (k : ∀ H' p, Same H H' → H p = none → H' p = some (.lst (st.map sel)) → Q (.ref p) H') (hs : st.length ≤ 1000) : tLc (iList K tl) (gTup K 2 (gCons (gName a) (gCons (gName b) gNil))) tYes te [a, b] σ H Q := by
  refine h _ fun H1 l s1 nl ⟨ts, hl, prs⟩ => ⟨l, rfl, ⟨_, SqL.of hl⟩, fun D hD => ?_⟩
  have szl := sizeLine_eq
  refine lc_it walk_list (fun i H' => Same H1 H' ∧ H' D = some (.lst ((st.take i).map sel))) ⟨same_new hD, upd_same⟩ (fun i H' hi hP => SqL.of (hP.1 _ _ hl)) ?_ fun H' hP => ?_
  · rintro i x H' H2 hi ⟨sH, hDD⟩ ⟨rfl, e⟩
    obtain ⟨q, hq, c, rfl, hc⟩ := paired_at prs e
    refine ⟨c, _, rfl, sqT_of (sH _ _ hc), rfl, _, _, rfl, _, _, rfl, rfl, hw _ _, ?_⟩
    unfold tYes
    dsimp only
    rw [if_pos rfl]
    refine he q _ _ ⟨_, hDD, by rw [List.length_map, List.length_take, szl]; omega, fun b u e => ?_, ?_⟩
    · rw [upd_ne (ne_of_none e hD)]
      exact sH _ _ e
    · rw [upd_same, List.take_succ, hq, List.map_append]
      rfl
  · obtain ⟨sH, hDD⟩ := hP
    rw [← prs.length, List.take_length] at hDD
    exact k H' D (s1.trans sH) (s1.fresh hD) hDD
theorem wS {K : PySem.W.Frag} {H : Hp} {a : Addr} {ws : List P22.Wd} (h : H a = some (.tup (wV ws))) : SqT K H a ((ws.map S).map V.str) := by
  rw [List.map_map]
  exact sqT_of h
theorem words_of_strs {ys : List Str} {ws : List P22.Wd} (h : ys.Perm (ws.map S)) : ∃ vs : List P22.Wd, ys = vs.map S ∧ vs.Perm ws := by
  refine ⟨ys.map fun z => z.cps.toList, ?_, ?_⟩
  · rw [List.map_map]
    exact (List.map_id'' (fun z => S_tl z) ys).symm
  · have := h.map fun z : Str => z.cps.toList
    rw [List.map_map] at this
    have e : (fun z : Str => z.cps.toList) ∘ S = id := funext fun w => by simp [S]
    rw [e, List.map_id] at this
    exact this
theorem eqv_ws : ∀ xs ys : List P22.Wd, PyData.eqv (.list (xs.map fun w => PyData.str (S w))) (.list (ys.map fun w => PyData.str (S w))) = decide (xs = ys)
  | [], [] => rfl
  | [], _ :: _ => rfl
  | _ :: _, [] => rfl
  | a :: xs, b :: ys => by
    have ih := eqv_ws xs ys
    show ((S a == S b) && PyData.eqv (.list (xs.map fun w => PyData.str (S w))) (.list (ys.map fun w => PyData.str (S w)))) = _
    rw [ih, SX.S_beq_eq, Bool.eq_iff_iff]
    simp
section
variable {P : Program} {w : World} {K : PySem.W.Frag} {mg : Str → Option Value} {base : Heap} {f fE fU CU : Addr} {fd fdE fdU : FuncData}
theorem sd40 : FnScope ["tree", "other", "deeds", "deed", "back"] ["tree", "other"] (defScope (top 40)) := fnScope_by (by decide +kernel)
/-- the deeds that turns_between tells -/
def betw (T U : P22.Tr) : List (Nat × P22.Tr) := if T = U then [] else ((P22.steps T).map fun q => (1, q.1)) ++ ordD (P22.leaves U) 0 (P22.leaves T) ++ ((P22.steps U).map fun q => (2, q.2)).reverse
def spTB (C CU : Addr) : Sp := fun vs H Q E => ∃ x y T U, vs = [.ref x, .ref y] ∧ TreeAt C H x T ∧ TreeAt C H y U ∧ Fine T ∧ Fine U ∧
  (((P22.leaves T).Perm (P22.leaves U) ∧ ∀ H' p ds, Same H H' → H p = none → H' p = some (.lst (ds.map dV)) → ds.length ≤ 3000 → (T = U → ds = []) → P22.Walks T ds U → ds = betw T U → Q (.ref p) H') ∨
    (¬ (P22.leaves T).Perm (P22.leaves U) ∧ Raised CU "what" (.str "things") H E))
theorem ok_tb (m : Mg K mg) (tc : Tc K mg) (U : Unl K mg CU fU fdU) (c_comb_deeds : Cal P w K mg base 4 "comb_deeds" (spCD (cT K)) []) (c_order_deeds : Cal P w K mg base 3 "order_deeds" spOD [])
    (EF : FnOk P w K mg base C8.CX0 1 fE fdE ["self", "other"] (spEq2 (cT K))) (eAt : PySem.W.findIn K (.ref (cT K)) "__eq__" = some (some (.ref fE))) (eFn : PySem.W.isFn K (.ref fE) = true) (eB : Binds K fdE ["self", "other"] [])
    (F : Fn K "turns_between" 40 f fd) (g : mg "turns_between" = some (.ref f)) : CalN P w K mg base 5 "turns_between" (spTB (cT K) CU) := by
  have sc := sd40
  have bI : Binds K fdU ["self", "what"] [] := U.F.bindsN fun _ _ _ _ _ _ us hl => match us, hl with | [_, _], _ => rfl
  refine calN F g sc (fun _ _ _ _ _ _ us hl => match us, hl with | [_, _], _ => rfl) ?_ fun cdv A outer s H vs Q E hr h => ?_
  · rintro vs H Q E ⟨x, y, T, U, rfl, _⟩
    rfl
  · obtain ⟨x, y, T, Z, rfl, tx, ty, fT, fV, alt⟩ := h
    have room64 : (A.deeper (envOfC "turns_between" (defScope (top 40)) s.heap.objs.size f cdv)).units + 64 < cLine := by have := hr.un; omega
    refine ⟨_, (pss_cons (ps_if (pt_cmpR (op_neD room64) (pe_callB call_sortedT (by rfl) m.sorted_ (by decide +kernel) (pa_cons (pe_fld (pv 0) rfl) pa_nil)) (pe_callB call_sortedT (by rfl) m.sorted_ (by decide +kernel) (pa_cons (pe_fld (pv 1) rfl) pa_nil)) (nomark _))
        (pss_one (L2N.ps_raise rfl takesN (pmk_oexN U.oex U.init U.initT (ok_initU U) (hr.mono (by decide)) bI C8.pass0 (by rfl) U.gB (pa_cons pe_str pa_nil))))
        pss_nil)
      (pss_cons (ps_if (pt_cmpR (op_eqOwn EF eAt eFn eB (hr.mono (by decide))) (pv 0) (pv 1) (nomark _))
        (pss_one (ps_ret (pe_lst pa_nil)))
        pss_nil)
      (pss_cons (ps_setLc (i := 2) (own := [("deed", 3), ("back", 4)]) (g := gTup K 2 (gCons (gName 3) (gCons (gName 4) gNil))) (by rfl) sc.nd rfl rfl (sw_true rfl rfl rfl (by decide +kernel)) (pi_list (pe_c c_comb_deeds hr (by decide) (by rfl) (pa_cons (pv 0) pa_nil))) (blkOk_by (own := [("deed", 3), ("back", 4)]) (N := ["tree", "other", "deeds", "deed", "back"]) (sc := defScope (top 40)) (by decide +kernel)) (fun _ _ _ _ _ => pg_tup rfl (pgs_cons (pg_name (i := 3) sc.nd rfl (.inl rfl)) (pgs_cons (pg_name (i := 4) sc.nd rfl (.inl rfl)) pgs_nil))) (fun _ _ _ _ _ => pts_nil) (fun _ _ _ _ _ => pv 3))
      (pss_cons (ps_expr (pe_bm PySem.F.plainAttrs_list PySem.F.slot_list_extend PySem.F.type_list_extend mt_extend (pv 2) (pa_cons (pe_c c_order_deeds hr (by decide) (by rfl) (pa_cons (pe_fld (pv 0) rfl) (pa_cons (pe_fld (pv 1) rfl) pa_nil))) pa_nil)))
      (pss_cons (ps_expr (pe_bm PySem.F.plainAttrs_list PySem.F.slot_list_extend PySem.F.type_list_extend mt_extend (pv 2) (pa_cons (pe_revL (pe_lc (own := [("deed", 3), ("back", 4)]) (g := gTup K 2 (gCons (gName 3) (gCons (gName 4) gNil))) (by rfl) sc.nd (pi_list (pe_c c_comb_deeds hr (by decide) (by rfl) (pa_cons (pv 1) pa_nil))) (blkOk_by (own := [("deed", 3), ("back", 4)]) (N := ["tree", "other", "deeds", "deed", "back"]) (sc := defScope (top 40)) (by decide +kernel)) (fun _ _ _ _ _ => pg_tup rfl (pgs_cons (pg_name (i := 3) sc.nd rfl (.inl rfl)) (pgs_cons (pg_name (i := 4) sc.nd rfl (.inl rfl)) pgs_nil))) (fun _ _ _ _ _ => pts_nil) (fun _ _ _ _ _ => pv 4))) pa_nil)))
      (pss_one (ps_ret (pv 2)))))))), ?_⟩
    obtain ⟨dx, lv, nd, d, lo, ab, hx, hlv, hnd, hd, hlo, hab⟩ := id tx
    obtain ⟨dx2, lv2, nd2, d2, lo2, ab2, hx2, hlv2, hnd2, hd2, hlo2, hab2⟩ := id ty
    have szl := sizeLine_eq
    refine seq_cut (fun σ' H' => σ' = [some (.ref x), some (.ref y), none, none, none] ∧ Same H H' ∧ (P22.leaves T).Perm (P22.leaves Z)) (fun D' hrt hn => ?_) ?_
    · simp only [tFld, L2.start, cxOf, tRet, tAndV, tOrV, tNotV, tCB, tCons, tNil, tVar, tC, tOp, tUn, tTest, tB, tIf, tIfS, tSeq, tAsg, tAnd, tOr, tNot, gName, tNext, tCall, tChain, rI, rI0, rEq, rNe, rGcd, rU, tM1, tM0, tSl, tPart, tNoPart, gTup, gCons, gNil, gSub, tTup, tLst, tPar, L2.rI, List.map_cons, List.map_nil, List.length_cons, List.length_nil, List.cons_append, List.nil_append, List.append_nil, List.getElem?_cons_zero, List.getElem?_cons_succ, List.set_cons_zero, List.set_cons_succ, Option.some.injEq, exists_eq_left, exists_eq_left', exists_eq_right, exists_and_left, exists_and_right, List.cons.injEq, and_true, true_and, V.int.injEq, V.str.injEq, V.bl.injEq, V.ref.injEq, List.replicate, Nat.reduceAdd, Nat.reduceSub, reduceCtorEq, false_and, and_false, if_true, if_false, Bool.false_eq_true, Bool.not_true, Bool.not_false, decide_eq_true_eq, exists_false, or_false, false_or]
      refine ⟨_, _, _, hx, tc.cls, tc.fld _ (by decide), _, rfl, lv, (P22.leaves T).map S, rfl, wS hlv, by rw [List.length_map]; have := fT.few; omega, fun ys1 p1 pm1 so1 hp1 => ?_⟩
      have q1 := same_new (o := .lst (ys1.map L2.V.str)) hp1
      refine ⟨_, _, _, q1 _ _ hx2, tc.cls, tc.fld _ (by decide), _, rfl, lv2, (P22.leaves Z).map S, rfl, wS (q1 _ _ hlv2), by rw [List.length_map]; have := fV.few; omega, fun ys2 p2 pm2 so2 hp2 => ?_⟩
      have q2 := same_new (o := .lst (ys2.map L2.V.str)) hp2
      obtain ⟨w1, rfl, pw1⟩ := words_of_strs pm1
      obtain ⟨w2, rfl, pw2⟩ := words_of_strs pm2
      have ok1 : ∀ u ∈ w1, PyData.strOk (S u) = true := fun u hu => name_ok (fT.good u (pw1.mem_iff.mp hu)).1
      have ok2 : ∀ u ∈ w2, PyData.strOk (S u) = true := fun u hu => name_ok (fV.good u (pw2.mem_iff.mp hu)).1
      have h1 : upd (upd H p1 (.lst ((w1.map S).map L2.V.str))) p2 (.lst ((w2.map S).map L2.V.str)) p1 = some (.lst (wV w1)) := by
        refine q2 _ _ ?_
        rw [upd_same, List.map_map]
        rfl
      have h2 : upd (upd H p1 (.lst ((w1.map S).map L2.V.str))) p2 (.lst ((w2.map S).map L2.V.str)) p2 = some (.lst (wV w2)) := by
        rw [upd_same, List.map_map]
        rfl
      have sh : ∀ {ws : List P22.Wd}, (∀ u ∈ ws, PyData.strOk (S u) = true) → SeqAt.shaped (.list (ws.map fun w => PyData.str (S w))) = true := fun {ws} ho => by
        unfold SeqAt.shaped
        have := depth_strs ws
        simp only [PyData.canLay0, PyData.depth, lay_strs ho, Bool.true_and, decide_eq_true_eq]
        exact decide_eq_true (by omega)
      refine ⟨_, _, .lst (SqL.of h1) (dp_strs w1), .lst (SqL.of h2) (dp_strs w2), sh ok1, sh ok2, _, rfl, ?_⟩
      rw [eqv_ws]
      have same := q1.trans q2
      rcases alt with ⟨pm, _⟩ | ⟨npm, ra⟩
      · have e : w1 = w2 := by
          have := sorted_one (sorted_pair so1) (sorted_pair so2) ((pw1.trans (pm.trans pw2.symm)).map S)
          exact List.map_inj_right (fun a b z => SX.S_inj z) |>.mp this
        rw [if_neg (by simp [e])]
        exact hn _ _ ⟨rfl, same, pm⟩
      · have ne : w1 ≠ w2 := fun z => npm (pw1.symm.trans (z ▸ pw2))
        rw [if_pos (by simp [ne])]
        exact mk_raised (fun R k => k) fun H' d s n e => ra H' d (same.trans s) (same.fresh n) e
    rintro σ' H1 ⟨rfl, s1, pm⟩
    obtain ⟨_, q⟩ := alt.resolve_right fun z => z.1 pm
    refine seq_cut (fun σ' H' => σ' = [some (.ref x), some (.ref y), none, none, none] ∧ Same H H' ∧ T ≠ Z) (fun D' hrt hn => ?_) ?_
    · simp only [L2.start, cxOf, tRet, tAndV, tOrV, tNotV, tCB, tCons, tNil, tVar, tC, tOp, tUn, tTest, tB, tSeq, tAsg, tNot, gName, tNext, tCall, tChain, rI, rI0, rEq, rNe, rGcd, rU, tM1, tM0, tSl, tPart, tNoPart, gTup, gCons, gNil, gSub, tTup, tLst, tPar, L2.rI, List.map_cons, List.map_nil, List.length_cons, List.length_nil, List.cons_append, List.nil_append, List.append_nil, List.getElem?_cons_zero, List.getElem?_cons_succ, List.set_cons_zero, List.set_cons_succ, Option.some.injEq, exists_eq_left, exists_eq_left', exists_eq_right, exists_and_left, exists_and_right, List.cons.injEq, and_true, true_and, V.int.injEq, V.str.injEq, V.bl.injEq, V.ref.injEq, List.replicate, Nat.reduceAdd, Nat.reduceSub, reduceCtorEq, false_and, and_false, if_true, if_false, Bool.false_eq_true, Bool.not_true, Bool.not_false, decide_eq_true_eq, exists_false, or_false, false_or, tIfS]
      refine ⟨x, y, dx, dx2, _, _, rfl, rfl, s1 _ _ hx, s1 _ _ hx2, x, y, T, Z, rfl, tx.same s1, ty.same s1, _, rfl, _, rfl, ?_⟩
      by_cases e : T = Z
      · rw [if_pos (by rw [e]; simp)]
        rw [hrt]
        exact ⟨small (by decide), fun p hp => q _ p [] (s1.trans (same_new hp)) (s1.fresh hp) upd_same (by decide) (fun _ => rfl) (e ▸ .nil) (by rw [betw, if_pos e])⟩
      · rw [if_neg (by
          rw [decide_eq_true_eq]
          exact fun z => e (P22.spell_inj fT.ok fV.ok z))]
        exact hn _ _ ⟨rfl, s1, e⟩
    rintro σ' H2 ⟨rfl, s2, ne⟩
    have stT : (P22.steps T).length ≤ 23 := steps_few fT
    have stZ : (P22.steps Z).length ≤ 23 := steps_few fV
    refine seq_cut (fun σ' H' => ∃ pl, σ' = [some (.ref x), some (.ref y), some (.ref pl), none, none] ∧ Same H H' ∧ H pl = none ∧ H' pl = some (.lst ((P22.steps T).map fun q => dV (1, q.1)))) (fun D' hrt hn => ?_) ?_
    · refine lc_pairs (st := P22.steps T) (fun q => dV (1, q.1)) (fun R k => ?_) (fun _ _ => rfl) (fun q R H' k => ⟨_, rfl, k⟩) (fun H' p s n e => hn _ _ ⟨p, rfl, s2.trans s, s2.fresh n, e⟩) (by omega)
      simp only [L2.start, cxOf, tRet, tAndV, tOrV, tNotV, tCB, tCons, tNil, tVar, tC, tOp, tUn, tTest, tB, tIf, tIfS, tSeq, tAsg, tAnd, tOr, tNot, gName, tNext, tCall, tChain, rI, rI0, rEq, rNe, rGcd, rU, tM1, tM0, tSl, tPart, tNoPart, gTup, gCons, gNil, gSub, tTup, tLst, tPar, L2.rI, List.map_cons, List.map_nil, List.length_cons, List.length_nil, List.cons_append, List.nil_append, List.append_nil, List.getElem?_cons_zero, List.getElem?_cons_succ, List.set_cons_zero, List.set_cons_succ, Option.some.injEq, exists_eq_left, exists_eq_left', exists_eq_right, exists_and_left, exists_and_right, List.cons.injEq, and_true, true_and, V.int.injEq, V.str.injEq, V.bl.injEq, V.ref.injEq, List.replicate, Nat.reduceAdd, Nat.reduceSub, reduceCtorEq, false_and, and_false, if_true, if_false, Bool.false_eq_true, Bool.not_true, Bool.not_false, decide_eq_true_eq, exists_false, or_false, false_or]
      exact ⟨x, T, rfl, tx.same s2, fT, fun H' p s n pa => k H' p s n pa⟩
    rintro σ' H3 ⟨pl, rfl, s3, npl, hpl⟩
    refine seq_cut (fun σ' H' => ∃ ds, σ' = [some (.ref x), some (.ref y), some (.ref pl), none, none] ∧ (∀ b u, b ≠ pl → H b = some u → H' b = some u) ∧ H' pl = some (.lst (((P22.steps T).map fun q => dV (1, q.1)) ++ ds.map dV)) ∧ ds.length ≤ 2000 ∧ P22.Walks (P22.comb (P22.leaves T)) ds (P22.comb (P22.leaves Z)) ∧ ds = ordD (P22.leaves Z) 0 (P22.leaves T)) (fun D' hrt hn => ?_) ?_
    · simp only [tDrop, tBM, tFld, L2.start, cxOf, tRet, tAndV, tOrV, tNotV, tCB, tCons, tNil, tVar, tC, tOp, tUn, tTest, tB, tIf, tIfS, tSeq, tAsg, tAnd, tOr, tNot, gName, tNext, tCall, tChain, rI, rI0, rEq, rNe, rGcd, rU, tM1, tM0, tSl, tPart, tNoPart, gTup, gCons, gNil, gSub, tTup, tLst, tPar, L2.rI, List.map_cons, List.map_nil, List.length_cons, List.length_nil, List.cons_append, List.nil_append, List.append_nil, List.getElem?_cons_zero, List.getElem?_cons_succ, List.set_cons_zero, List.set_cons_succ, Option.some.injEq, exists_eq_left, exists_eq_left', exists_eq_right, exists_and_left, exists_and_right, List.cons.injEq, and_true, true_and, V.int.injEq, V.str.injEq, V.bl.injEq, V.ref.injEq, List.replicate, Nat.reduceAdd, Nat.reduceSub, reduceCtorEq, false_and, and_false, if_true, if_false, Bool.false_eq_true, Bool.not_true, Bool.not_false, decide_eq_true_eq, exists_false, or_false, false_or]
      refine ⟨.inl ⟨rfl, _, SqL.of hpl⟩, _, _, _, s3 _ _ hx, tc.cls, tc.fld _ (by decide), _, rfl, _, _, _, s3 _ _ hx2, tc.cls, tc.fld _ (by decide), _, rfl, lv, lv2, P22.leaves T, P22.leaves Z, rfl, s3 _ _ hlv, s3 _ _ hlv2, fT.nd, pm, P22.leaves_pos T, ⟨fT.few, fun u hu => name_len (fT.good u hu).1⟩, fun H' p ds s n e ln wk dt => ?_⟩
      refine ⟨pl, p, _, _, rfl, rfl, s _ _ hpl, e, by rw [List.length_map, List.length_map]; omega, hn _ _ ⟨ds, rfl, fun b u nb e => ?_, upd_same, ln, wk, dt⟩⟩
      rw [upd_ne nb]
      exact s _ _ (s3 _ _ e)
    rintro σ' H4 ⟨ds, rfl, k4, hpl4, ln4, wk4, dt4⟩
    have s4 : Same H H4 := fun b u e => k4 b u (ne_of_none e npl) e
    refine seq_cut (fun σ' H' => σ' = [some (.ref x), some (.ref y), some (.ref pl), none, none] ∧ Same H H' ∧ H' pl = some (.lst ((((P22.steps T).map fun q => dV (1, q.1)) ++ ds.map dV) ++ ((P22.steps Z).map fun q => dV (2, q.2)).reverse))) (fun D' hrt hn => ?_) ?_
    · unfold tDrop tBM tCons tRevL tVar tNil
      refine ⟨.ref pl, rfl, .inl ⟨rfl, _, SqL.of hpl4⟩, ?_⟩
      refine lc_pairs (st := P22.steps Z) (fun q => dV (2, q.2)) (fun R k => ?_) (fun _ _ => rfl) (fun q R H' k => ⟨_, rfl, k⟩) (fun H5 p5 s n e => ⟨p5, _, rfl, SqL.of e, fun p6 hp6 => ⟨pl, p6, _, _, rfl, rfl, same_new hp6 _ _ (s _ _ hpl4), upd_same, ?_, hn _ _ ⟨rfl, fun b u e => ?_, upd_same⟩⟩⟩) (by omega)
      · simp only [L2.start, cxOf, tRet, tAndV, tOrV, tNotV, tCB, tCons, tNil, tVar, tC, tOp, tUn, tTest, tB, tIf, tIfS, tSeq, tAsg, tAnd, tOr, tNot, gName, tNext, tCall, tChain, rI, rI0, rEq, rNe, rGcd, rU, tM1, tM0, tSl, tPart, tNoPart, gTup, gCons, gNil, gSub, tTup, tLst, tPar, L2.rI, List.map_cons, List.map_nil, List.length_cons, List.length_nil, List.cons_append, List.nil_append, List.append_nil, List.getElem?_cons_zero, List.getElem?_cons_succ, List.set_cons_zero, List.set_cons_succ, Option.some.injEq, exists_eq_left, exists_eq_left', exists_eq_right, exists_and_left, exists_and_right, List.cons.injEq, and_true, true_and, V.int.injEq, V.str.injEq, V.bl.injEq, V.ref.injEq, List.replicate, Nat.reduceAdd, Nat.reduceSub, reduceCtorEq, false_and, and_false, if_true, if_false, Bool.false_eq_true, Bool.not_true, Bool.not_false, decide_eq_true_eq, exists_false, or_false, false_or]
        exact ⟨y, Z, rfl, ty.same s4, fV, fun H' p s n pa => k H' p s n pa⟩
      · rw [List.length_append, List.length_map, List.length_map, List.length_reverse, List.length_map]
        omega
      · rw [upd_ne (ne_of_none e npl)]
        exact same_new hp6 _ _ (s _ _ (s4 _ _ e))
    rintro σ' H5 ⟨rfl, s5, hpl5⟩
    simp only [L2.start, cxOf, tRet, tAndV, tOrV, tNotV, tCB, tCons, tNil, tVar, tC, tOp, tUn, tTest, tB, tIf, tIfS, tSeq, tAsg, tAnd, tOr, tNot, gName, tNext, tCall, tChain, rI, rI0, rEq, rNe, rGcd, rU, tM1, tM0, tSl, tPart, tNoPart, gTup, gCons, gNil, gSub, tTup, tLst, tPar, L2.rI, List.map_cons, List.map_nil, List.length_cons, List.length_nil, List.cons_append, List.nil_append, List.append_nil, List.getElem?_cons_zero, List.getElem?_cons_succ, List.set_cons_zero, List.set_cons_succ, Option.some.injEq, exists_eq_left, exists_eq_left', exists_eq_right, exists_and_left, exists_and_right, List.cons.injEq, and_true, true_and, V.int.injEq, V.str.injEq, V.bl.injEq, V.ref.injEq, List.replicate, Nat.reduceAdd, Nat.reduceSub, reduceCtorEq, false_and, and_false, if_true, if_false, Bool.false_eq_true, Bool.not_true, Bool.not_false, decide_eq_true_eq, exists_false, or_false, false_or]
    have wa := P22.steps_right T []
    have wb := P22.steps_left Z []
    refine q H5 pl (((P22.steps T).map fun q => (1, q.1)) ++ ds ++ ((P22.steps Z).map fun q => (2, q.2)).reverse) s5 npl ?_ ?_ (fun e => absurd e ne) ((wa.app wk4).app wb) (by rw [betw, if_neg ne, dt4])
    · rw [hpl5]
      simp only [List.map_append, List.map_reverse, List.map_map]
      rfl
    · simp only [List.length_append, List.length_map, List.length_reverse]
      omega
end
end W22

set_option Elab.async false
set_option linter.all false
set_option maxRecDepth 100000
set_option maxHeartbeats 4000000
/-! TD22: _law_tidy -/
namespace W22
open PySem PySem.Spec PyProof.Rows L2 Lay
open SX (S S_len S_cat S_tl)
open C8 (Cal pe_c pe_gc fnScope_by E0)
section
variable {P : Program} {w : World} {K : PySem.W.Frag} {mg : Str → Option Value} {base : Heap} {f : Addr} {fd : FuncData}
theorem sd56 : FnScope ["text", "made", "last", "word"] ["text"] (defScope (top 56)) := fnScope_by (by decide +kernel)
def spTidy : Sp := fun vs H Q _ => ∃ a : List Nat, vs = [.str (S a)] ∧ a.length ≤ 100000 ∧ (P22.words a).length ≤ 200 ∧ (∀ u ∈ P22.words a, u.length ≤ 10) ∧ ∀ H', Same H H' → Q (.str (S ((P22.words a).foldl P22.wr ([], [40])).1)) H'
theorem ok_tidy (m : Mg K mg) (c__law_tokens : Cal P w K mg base 1 "_law_tokens" spTW []) (F : Fn K "_law_tidy" 56 f fd) (g : mg "_law_tidy" = some (.ref f)) : Cal P w K mg base 2 "_law_tidy" spTidy [] := by
  have sc := sd56
  refine calD F g sc (fun _ _ _ _ _ _ us hl => match us, hl with | [_], _ => rfl) ?_ fun cdv A outer s H vs Q E hr h => ?_
  · rintro vs H Q E ⟨a, rfl, _⟩
    rfl
  · obtain ⟨a, rfl, al, few, sh, q⟩ := h
    refine ⟨_, (pss_cons (ps_set (i := 1) sc.nd rfl (.inl rfl) pe_str)
      (pss_cons (ps_set (i := 2) sc.nd rfl (.inl rfl) pe_str)
      (pss_cons (ps_for pown rfl (pi_list (pe_c c__law_tokens hr (by decide) (by rfl) (pa_cons (pv 0) pa_nil))) (pg_name (i := 3) sc.nd rfl (.inl rfl))
        (pss_cons (ps_set (i := 1) sc.nd rfl (.inl rfl) (pe_op op_add_str (pe_op op_add_str (pv 1) (pe_ifExp ((pw_or (pt_cmpR op_eq (pv 2) pe_str (nomark _)) (pw_or1 (pt_cmpR op_eq (pv 3) pe_str (nomark _))))).pt pe_str pe_str)) (pv 3)))
        (pss_one (ps_set (i := 2) sc.nd rfl (.inl rfl) (pv 3)))))
      (pss_one (ps_ret (pv 1)))))), ?_⟩
    generalize eW : P22.words a = W at few sh q
    refine seq_cut (fun σ' H' => σ' = [some (.str (S a)), some (.str (S [])), none, none] ∧ H' = H) (fun D' hrt hn => ?_) ?_
    · simp only [L2.start, cxOf, tRet, tAndV, tOrV, tNotV, tCB, tCons, tNil, tVar, tC, tOp, tUn, tTest, tB, tIf, tIfS, tSeq, tAsg, tAnd, tOr, tNot, gName, tNext, tCall, tChain, rI, rI0, rEq, rNe, rGcd, rU, tM1, tM0, tSl, tPart, tNoPart, gTup, gCons, gNil, gSub, tTup, tLst, tPar, L2.rI, List.map_cons, List.map_nil, List.length_cons, List.length_nil, List.cons_append, List.nil_append, List.append_nil, List.getElem?_cons_zero, List.getElem?_cons_succ, List.set_cons_zero, List.set_cons_succ, Option.some.injEq, exists_eq_left, exists_eq_left', exists_eq_right, exists_and_left, exists_and_right, List.cons.injEq, and_true, true_and, V.int.injEq, V.str.injEq, V.bl.injEq, V.ref.injEq, List.replicate, Nat.reduceAdd, Nat.reduceSub, reduceCtorEq, false_and, and_false, if_true, if_false, Bool.false_eq_true, Bool.not_true, Bool.not_false, decide_eq_true_eq, exists_false, or_false, false_or]
      exact hn _ _ ⟨by rw [show Str.ofString "" = S [] by decide +kernel], rfl⟩
    rintro σ' H' ⟨rfl, rfl⟩
    refine seq_cut (fun σ' H'' => σ' = [some (.str (S a)), some (.str (S [])), some (.str (S [40])), none] ∧ H'' = H') (fun D' hrt hn => ?_) ?_
    · simp only [L2.start, cxOf, tRet, tAndV, tOrV, tNotV, tCB, tCons, tNil, tVar, tC, tOp, tUn, tTest, tB, tIf, tIfS, tSeq, tAsg, tAnd, tOr, tNot, gName, tNext, tCall, tChain, rI, rI0, rEq, rNe, rGcd, rU, tM1, tM0, tSl, tPart, tNoPart, gTup, gCons, gNil, gSub, tTup, tLst, tPar, L2.rI, List.map_cons, List.map_nil, List.length_cons, List.length_nil, List.cons_append, List.nil_append, List.append_nil, List.getElem?_cons_zero, List.getElem?_cons_succ, List.set_cons_zero, List.set_cons_succ, Option.some.injEq, exists_eq_left, exists_eq_left', exists_eq_right, exists_and_left, exists_and_right, List.cons.injEq, and_true, true_and, V.int.injEq, V.str.injEq, V.bl.injEq, V.ref.injEq, List.replicate, Nat.reduceAdd, Nat.reduceSub, reduceCtorEq, false_and, and_false, if_true, if_false, Bool.false_eq_true, Bool.not_true, Bool.not_false, decide_eq_true_eq, exists_false, or_false, false_or]
      exact hn _ _ ⟨by rw [show Str.ofString "(" = S [40] by decide +kernel], rfl⟩
    rintro σ' H'' ⟨rfl, rfl⟩
    refine seq_cut (fun σ' H1 => ∃ y2 y3, σ' = [some (.str (S a)), some (.str (S (W.foldl P22.wr ([], [40])).1)), y2, y3] ∧ Same H'' H1) (fun D' hrt hn => ?_) ?_
    · refine for_list_in (Pre := fun H1 p => Same H'' H1 ∧ H1 p = some (wordsV W)) (fun R k => ?_) fun H1 p ⟨s1, hp⟩ => ⟨_, SqL.of hp, fun i σ' H2 => H2 = H1 ∧ ∃ y3, σ' = [some (.str (S a)), some (.str (S ((W.take i).foldl P22.wr ([], [40])).1)), some (.str (S ((W.take i).foldl P22.wr ([], [40])).2)), y3] ∧ ((W.take i).foldl P22.wr ([], [40])).1.length ≤ 11 * i ∧ ((W.take i).foldl P22.wr ([], [40])).2.length ≤ 10, ⟨rfl, none, rfl, Nat.zero_le _, by simp⟩, fun i σ' H2 hi h => by rw [h.1]; exact SqL.of hp, ?_, ?_⟩
      · simp only [L2.start, cxOf, tRet, tAndV, tOrV, tNotV, tCB, tCons, tNil, tVar, tC, tOp, tUn, tTest, tB, tIf, tIfS, tSeq, tAsg, tAnd, tOr, tNot, gName, tNext, tCall, tChain, rI, rI0, rEq, rNe, rGcd, rU, tM1, tM0, tSl, tPart, tNoPart, gTup, gCons, gNil, gSub, tTup, tLst, tPar, L2.rI, List.map_cons, List.map_nil, List.length_cons, List.length_nil, List.cons_append, List.nil_append, List.append_nil, List.getElem?_cons_zero, List.getElem?_cons_succ, List.set_cons_zero, List.set_cons_succ, Option.some.injEq, exists_eq_left, exists_eq_left', exists_eq_right, exists_and_left, exists_and_right, List.cons.injEq, and_true, true_and, V.int.injEq, V.str.injEq, V.bl.injEq, V.ref.injEq, List.replicate, Nat.reduceAdd, Nat.reduceSub, reduceCtorEq, false_and, and_false, if_true, if_false, Bool.false_eq_true, Bool.not_true, Bool.not_false, decide_eq_true_eq, exists_false, or_false, false_or]
        refine ⟨a, rfl, by omega, fun H1 t s n e => k _ _ ⟨s, ?_⟩⟩
        rw [e, eW]
      · rintro i x σ' H2 hx ⟨rfl, y3, rfl, l1, l2⟩
        rw [List.getElem?_map] at hx
        obtain ⟨u, hu, rfl⟩ := Option.map_eq_some_iff.mp hx
        have e1 : (W.take (i + 1)).foldl P22.wr ([], [40]) = P22.wr ((W.take i).foldl P22.wr ([], [40])) u := by
          rw [List.take_succ, hu, List.foldl_append]
          rfl
        have lu := sh u (List.mem_of_getElem? hu)
        have li : i < W.length := (List.getElem?_eq_some_iff.mp hu).1
        have szl := sizeLine_eq
        simp only [L2.start, cxOf, tRet, tAndV, tOrV, tNotV, tCB, tCons, tNil, tVar, tC, tOp, tUn, tTest, tB, tSeq, tAsg, tNot, gName, tNext, tCall, tChain, rI, rI0, rEq, rNe, rGcd, rU, tM1, tM0, tSl, tPart, tNoPart, gTup, gCons, gNil, gSub, tTup, tLst, tPar, L2.rI, List.map_cons, List.map_nil, List.length_cons, List.length_nil, List.cons_append, List.nil_append, List.append_nil, List.getElem?_cons_zero, List.getElem?_cons_succ, List.set_cons_zero, List.set_cons_succ, Option.some.injEq, exists_eq_left, exists_eq_left', exists_eq_right, exists_and_left, exists_and_right, List.cons.injEq, and_true, true_and, V.int.injEq, V.str.injEq, V.bl.injEq, V.ref.injEq, List.replicate, Nat.reduceAdd, Nat.reduceSub, reduceCtorEq, false_and, and_false, if_true, if_false, Bool.false_eq_true, Bool.not_true, Bool.not_false, decide_eq_true_eq, exists_false, or_false, false_or, e1]
        generalize (W.take i).foldl P22.wr ([], [40]) = st at l1 l2 ⊢
        have e40 : Str.ofString "(" = S [40] := by decide +kernel
        have e41 : Str.ofString ")" = S [41] := by decide +kernel
        have e32 : Str.ofString " " = S [32] := by decide +kernel
        have e00 : Str.ofString "" = S [] := by decide +kernel
        simp only [L2.start, cxOf, tRet, tAndV, tOrV, tNotV, tCB, tCons, tNil, tVar, tC, tOp, tUn, tTest, tB, tIf, tIfS, tSeq, tAsg, tAnd, tOr, tNot, gName, tNext, tCall, tChain, rI, rI0, rEq, rNe, rGcd, rU, tM1, tM0, tSl, tPart, tNoPart, gTup, gCons, gNil, gSub, tTup, tLst, tPar, L2.rI, List.map_cons, List.map_nil, List.length_cons, List.length_nil, List.cons_append, List.nil_append, List.append_nil, List.getElem?_cons_zero, List.getElem?_cons_succ, List.set_cons_zero, List.set_cons_succ, Option.some.injEq, exists_eq_left, exists_eq_left', exists_eq_right, exists_and_left, exists_and_right, List.cons.injEq, and_true, true_and, V.int.injEq, V.str.injEq, V.bl.injEq, V.ref.injEq, List.replicate, Nat.reduceAdd, Nat.reduceSub, reduceCtorEq, false_and, and_false, if_true, if_false, Bool.false_eq_true, Bool.not_true, Bool.not_false, decide_eq_true_eq, exists_false, or_false, false_or, e40, e41, e32, e00]
        have fin : ∀ sp : List Nat, sp.length ≤ 1 → (if u ≠ [41] ∧ st.2 ≠ [40] then [32] else []) = sp → (S st.1).length + (S sp).length ≤ sizeLine ∧ (S st.1 ++ S sp).length + (S u).length ≤ sizeLine ∧ (S st.1 ++ S sp ++ S u = S (P22.wr st u).1 ∧ S u = S (P22.wr st u).2 ∧ ∃ x, some (V.str (S u)) = x) ∧ (P22.wr st u).1.length ≤ 11 * (i + 1) ∧ (P22.wr st u).2.length ≤ 10 := fun sp ls hsp => by
          have ew : (P22.wr st u).1 = st.1 ++ sp ++ u := by rw [← hsp]; rfl
          have ew2 : (P22.wr st u).2 = u := rfl
          refine ⟨by rw [S_len, S_len, szl]; omega, by rw [S_cat, S_len, S_len, List.length_append, szl]; omega, ⟨by rw [ew, S_cat, S_cat], by rw [ew2], _, rfl⟩, ?_, by rw [ew2]; exact lu⟩
          rw [ew, List.length_append, List.length_append]
          omega
        refine ⟨rfl, ?_⟩
        by_cases c1 : st.2 = [40]
        · rw [if_pos (by rw [c1])]
          exact fin [] (by decide) (if_neg fun z => z.2 c1)
        · rw [if_neg fun z => c1 (SX.S_inj z)]
          refine ⟨rfl, ?_⟩
          by_cases c2 : u = [41]
          · rw [if_pos (by rw [c2])]
            exact fin [] (by decide) (if_neg fun z => z.1 c2)
          · rw [if_neg fun z => c2 (SX.S_inj z)]
            exact fin [32] (by decide) (if_pos ⟨c2, c1⟩)
      · rintro σ' H2 ⟨rfl, y3, rfl, _, _⟩
        rw [List.length_map, List.take_length]
        exact hn _ _ ⟨_, _, rfl, s1⟩
    rintro σ' H1 ⟨y2, y3, rfl, s1⟩
    simp only [L2.start, cxOf, tRet, tAndV, tOrV, tNotV, tCB, tCons, tNil, tVar, tC, tOp, tUn, tTest, tB, tIf, tIfS, tSeq, tAsg, tAnd, tOr, tNot, gName, tNext, tCall, tChain, rI, rI0, rEq, rNe, rGcd, rU, tM1, tM0, tSl, tPart, tNoPart, gTup, gCons, gNil, gSub, tTup, tLst, tPar, L2.rI, List.map_cons, List.map_nil, List.length_cons, List.length_nil, List.cons_append, List.nil_append, List.append_nil, List.getElem?_cons_zero, List.getElem?_cons_succ, List.set_cons_zero, List.set_cons_succ, Option.some.injEq, exists_eq_left, exists_eq_left', exists_eq_right, exists_and_left, exists_and_right, List.cons.injEq, and_true, true_and, V.int.injEq, V.str.injEq, V.bl.injEq, V.ref.injEq, List.replicate, Nat.reduceAdd, Nat.reduceSub, reduceCtorEq, false_and, and_false, if_true, if_false, Bool.false_eq_true, Bool.not_true, Bool.not_false, decide_eq_true_eq, exists_false, or_false, false_or]
    exact q H1 s1
end
end W22

set_option Elab.async false
set_option linter.all false
set_option maxRecDepth 100000
set_option maxHeartbeats 4000000
/-! MX22: _law_mix -/
namespace W22
open PySem PySem.Spec PyProof.Rows L2 Lay
open SX (S S_len S_cat S_tl)
open C8 (Cal pe_c pe_gc fnScope_by E0)
theorem er_map {α β : Type} (f : α → β) : ∀ (xs : List α) (k : Nat), (xs.map f).eraseIdx k = (xs.eraseIdx k).map f
  | [], _ => rfl
  | _ :: _, 0 => rfl
  | x :: xs, k + 1 => by
    show f x :: (xs.map f).eraseIdx k = f x :: (xs.eraseIdx k).map f
    rw [er_map f xs k]
theorem er_perm {α : Type} : ∀ {xs : List α} {k : Nat} (h : k < xs.length), (xs[k] :: xs.eraseIdx k).Perm xs
  | x :: xs, 0, _ => List.Perm.refl _
  | x :: xs, k + 1, h => (List.Perm.swap x (xs[k]'(Nat.lt_of_succ_lt_succ h)) (xs.eraseIdx k)).trans (List.Perm.cons x (er_perm (Nat.lt_of_succ_lt_succ h)))
theorem new_ne' {b a : Addr} {H : Hp} (g : Bag H b) (h : H a = none) : a ≠ b := (bag_new (o := .lst []) g h).1
section
variable {P : Program} {w : World} {K : PySem.W.Frag} {mg : Str → Option Value} {base : Heap} {f : Addr} {fd : FuncData}
theorem sd46 : FnScope ["bag", "things", "left", "made", "k"] ["bag", "things"] (defScope (top 46)) := fnScope_by (by decide +kernel)
def spMix : Sp := fun vs H Q _ => ∃ (b t : Addr) (ws : List P22.Wd), vs = [.ref b, .ref t] ∧ Bag H b ∧ H t = some (wordsV ws) ∧ t ≠ b ∧ ws.length ≤ 100 ∧ ∀ H' a ys, Ex b H H' → H a = none → H' a = some (wordsV ys) → ys.Perm ws → Q (.ref a) H'
theorem ok_mix (m : Mg K mg) (c__law_draw : Cal P w K mg base 1 "_law_draw" spDraw []) (F : Fn K "_law_mix" 46 f fd) (g : mg "_law_mix" = some (.ref f)) : Cal P w K mg base 2 "_law_mix" spMix [] := by
  have sc := sd46
  refine calD F g sc (fun _ _ _ _ _ _ us hl => match us, hl with | [_, _], _ => rfl) ?_ fun cdv A outer s H vs Q E hr h => ?_
  · rintro vs H Q E ⟨b, t, ws, rfl, _⟩
    rfl
  · obtain ⟨b, t, ws, rfl, bag, ht, tb, few, q⟩ := h
    refine ⟨_, (pss_cons (ps_set (i := 2) sc.nd rfl (.inl rfl) (pe_callTy call_list_of (by rfl) m.list_ boot_list (pa_cons (pv 1) pa_nil)))
      (pss_cons (ps_set (i := 3) sc.nd rfl (.inl rfl) (pe_lst pa_nil))
      (pss_cons (ps_for pown rfl (pi_range1 rfl m.range_ (pa_cons (pe_callB call_len (by rfl) m.len_ boot_len (pa_cons (pv 1) pa_nil)) pa_nil)) (pg_name (i := 4) sc.nd rfl (.inl rfl))
        (pss_one (ps_expr (pe_bm PySem.F.plainAttrs_list PySem.F.slot_list_append PySem.F.type_list_append mt_append (pv 3) (pa_cons (pe_bm PySem.F.plainAttrs_list PySem.F.slot_list_pop PySem.F.type_list_pop mt_popAt (pv 2) (pa_cons (pe_c c__law_draw hr (by decide) (by rfl) (pa_cons (pv 0) (pa_cons (pe_callB call_len (by rfl) m.len_ boot_len (pa_cons (pv 2) pa_nil)) pa_nil))) pa_nil)) pa_nil)))))
      (pss_one (ps_ret (pv 3)))))), ?_⟩
    have szl := sizeLine_eq
    refine seq_cut (fun σ' H' => ∃ pl, σ' = [some (.ref b), some (.ref t), some (.ref pl), none, none] ∧ H pl = none ∧ Ex b H H' ∧ H' pl = some (wordsV ws)) (fun D' hrt hn => ?_) ?_
    · simp only [L2.start, cxOf, tRet, tAndV, tOrV, tNotV, tCB, tCons, tNil, tVar, tC, tOp, tUn, tTest, tB, tIf, tIfS, tSeq, tAsg, tAnd, tOr, tNot, gName, tNext, tCall, tChain, rI, rI0, rEq, rNe, rGcd, rU, tM1, tM0, tSl, tPart, tNoPart, gTup, gCons, gNil, gSub, tTup, tLst, tPar, L2.rI, List.map_cons, List.map_nil, List.length_cons, List.length_nil, List.cons_append, List.nil_append, List.append_nil, List.getElem?_cons_zero, List.getElem?_cons_succ, List.set_cons_zero, List.set_cons_succ, Option.some.injEq, exists_eq_left, exists_eq_left', exists_eq_right, exists_and_left, exists_and_right, List.cons.injEq, and_true, true_and, V.int.injEq, V.str.injEq, V.bl.injEq, V.ref.injEq, List.replicate, Nat.reduceAdd, Nat.reduceSub, reduceCtorEq, false_and, and_false, if_true, if_false, Bool.false_eq_true, Bool.not_true, Bool.not_false, decide_eq_true_eq, exists_false, or_false, false_or]
      exact ⟨_, .inl (SqL.of ht), fun p hp => hn _ _ ⟨p, rfl, hp, (Ex.rf bag).sm (same_new hp), upd_same⟩⟩
    rintro σ' H1 ⟨pl, rfl, npl, x1, hpl⟩
    refine seq_cut (fun σ' H' => ∃ pm, σ' = [some (.ref b), some (.ref t), some (.ref pl), some (.ref pm), none] ∧ H pm = none ∧ pm ≠ pl ∧ Ex b H H' ∧ H' pl = some (wordsV ws) ∧ H' pm = some (.lst [])) (fun D' hrt hn => ?_) ?_
    · simp only [L2.start, cxOf, tRet, tAndV, tOrV, tNotV, tCB, tCons, tNil, tVar, tC, tOp, tUn, tTest, tB, tIf, tIfS, tSeq, tAsg, tAnd, tOr, tNot, gName, tNext, tCall, tChain, rI, rI0, rEq, rNe, rGcd, rU, tM1, tM0, tSl, tPart, tNoPart, gTup, gCons, gNil, gSub, tTup, tLst, tPar, L2.rI, List.map_cons, List.map_nil, List.length_cons, List.length_nil, List.cons_append, List.nil_append, List.append_nil, List.getElem?_cons_zero, List.getElem?_cons_succ, List.set_cons_zero, List.set_cons_succ, Option.some.injEq, exists_eq_left, exists_eq_left', exists_eq_right, exists_and_left, exists_and_right, List.cons.injEq, and_true, true_and, V.int.injEq, V.str.injEq, V.bl.injEq, V.ref.injEq, List.replicate, Nat.reduceAdd, Nat.reduceSub, reduceCtorEq, false_and, and_false, if_true, if_false, Bool.false_eq_true, Bool.not_true, Bool.not_false, decide_eq_true_eq, exists_false, or_false, false_or]
      refine ⟨small (by decide), fun p hp => hn _ _ ⟨p, rfl, ?_, (fun z => by rw [z, hpl] at hp; cases hp), x1.sm (same_new hp), same_new hp _ _ hpl, upd_same⟩⟩
      cases e : H p with
      | none => rfl
      | some o =>
        by_cases c : p = b
        · obtain ⟨l0, ns, pos, big, mixed, cnt, left, f1, _⟩ := x1.bag
          rw [c, f1] at hp
          cases hp
        · rw [x1.keep _ _ c e] at hp
          cases hp
    rintro σ' H2 ⟨pm, rfl, npm, pmpl, x2, hpl2, hpm2⟩
    have plb : pl ≠ b := new_ne' bag npl
    have pmb : pm ≠ b := new_ne' bag npm
    refine seq_cut (fun σ' H' => ∃ y4 ys, σ' = [some (.ref b), some (.ref t), some (.ref pl), some (.ref pm), y4] ∧ Ex b H H' ∧ H' pm = some (wordsV ys) ∧ ys.Perm ws) (fun D' hrt hn => ?_) ?_
    · have lt : LenV K (.ref t) H2 ws.length := by
        have := len_L (K := K) (SqL.of (x2.keep t _ tb ht))
        rwa [List.length_map] at this
      refine for_range_at (n := ws.length) (H1 := H2) (by omega) (fun R k => ?_) ⟨fun i σ' H' => ∃ y4 got rest, σ' = [some (.ref b), some (.ref t), some (.ref pl), some (.ref pm), y4] ∧ Ex b H H' ∧ H' pl = some (wordsV rest) ∧ H' pm = some (wordsV got) ∧ (got ++ rest).Perm ws ∧ got.length = i, ⟨none, [], ws, rfl, x2, hpl2, hpm2, List.Perm.refl _, rfl⟩, ?_, ?_⟩
      · simp only [L2.start, cxOf, tRet, tAndV, tOrV, tNotV, tCB, tCons, tNil, tVar, tC, tOp, tUn, tTest, tB, tIf, tIfS, tSeq, tAsg, tAnd, tOr, tNot, gName, tNext, tCall, tChain, rI, rI0, rEq, rNe, rGcd, rU, tM1, tM0, tSl, tPart, tNoPart, gTup, gCons, gNil, gSub, tTup, tLst, tPar, L2.rI, List.map_cons, List.map_nil, List.length_cons, List.length_nil, List.cons_append, List.nil_append, List.append_nil, List.getElem?_cons_zero, List.getElem?_cons_succ, List.set_cons_zero, List.set_cons_succ, Option.some.injEq, exists_eq_left, exists_eq_left', exists_eq_right, exists_and_left, exists_and_right, List.cons.injEq, and_true, true_and, V.int.injEq, V.str.injEq, V.bl.injEq, V.ref.injEq, List.replicate, Nat.reduceAdd, Nat.reduceSub, reduceCtorEq, false_and, and_false, if_true, if_false, Bool.false_eq_true, Bool.not_true, Bool.not_false, decide_eq_true_eq, exists_false, or_false, false_or]
        exact ⟨_, lt, k⟩
      · rintro i σ' H3 hi ⟨y4, got, rest, rfl, x3, hl3, hm3, pm3, lg⟩
        have lr : got.length + rest.length = ws.length := by rw [← List.length_append]; exact pm3.length_eq
        simp only [tDrop, tBM, L2.start, cxOf, tRet, tAndV, tOrV, tNotV, tCB, tCons, tNil, tVar, tC, tOp, tUn, tTest, tB, tIf, tIfS, tSeq, tAsg, tAnd, tOr, tNot, gName, tNext, tCall, tChain, rI, rI0, rEq, rNe, rGcd, rU, tM1, tM0, tSl, tPart, tNoPart, gTup, gCons, gNil, gSub, tTup, tLst, tPar, L2.rI, List.map_cons, List.map_nil, List.length_cons, List.length_nil, List.cons_append, List.nil_append, List.append_nil, List.getElem?_cons_zero, List.getElem?_cons_succ, List.set_cons_zero, List.set_cons_succ, Option.some.injEq, exists_eq_left, exists_eq_left', exists_eq_right, exists_and_left, exists_and_right, List.cons.injEq, and_true, true_and, V.int.injEq, V.str.injEq, V.bl.injEq, V.ref.injEq, List.replicate, Nat.reduceAdd, Nat.reduceSub, reduceCtorEq, false_and, and_false, if_true, if_false, Bool.false_eq_true, Bool.not_true, Bool.not_false, decide_eq_true_eq, exists_false, or_false, false_or]
        have lrl : LenV K (.ref pl) H3 rest.length := by
          have := len_L (K := K) (SqL.of hl3)
          rwa [List.length_map] at this
        refine ⟨.inl ⟨rfl, _, SqL.of hm3⟩, .inl ⟨rfl, _, SqL.of hl3⟩, _, lrl, b, _, rfl, x3.bag, by omega, by omega, fun H4 d x4 d0 d1 => ?_⟩
        obtain ⟨k, rfl⟩ := Int.eq_ofNat_of_zero_le d0
        have hk : k < rest.length := by omega
        have hl4 := x4.keep pl _ plb hl3
        have hm4 := x4.keep pm _ pmb hm3
        refine ⟨pl, _, (k : Int), k, V.str (S rest[k]), rfl, rfl, hl4, by omega, by omega, (ixN_seq (ixN_at (by rw [List.length_map]; exact hk))).1, by rw [List.getElem?_map, List.getElem?_eq_getElem hk]; rfl, ?_⟩
        refine ⟨pm, _, V.str (S rest[k]), rfl, rfl, (upd_ne pmpl).trans hm4, by rw [List.length_map]; omega, ((x3.tr x4).put bag npl).put bag npm, got ++ [rest[k]], rest.eraseIdx k, ?_, ?_, ?_, by rw [List.length_append, List.length_singleton, lg]⟩
        · rw [upd_ne (Ne.symm pmpl), upd_same, wordsV, er_map]
        · rw [upd_same, wordsV, List.map_append]
          rfl
        · rw [List.append_assoc]
          exact (List.Perm.append_left got (er_perm hk)).trans pm3
      · rintro σ' H3 ⟨y4, got, rest, rfl, x3, hl3, hm3, pm3, lg⟩
        have lr : got.length + rest.length = ws.length := by rw [← List.length_append]; exact pm3.length_eq
        have e : rest = [] := List.length_eq_zero_iff.mp (by omega)
        subst e
        rw [List.append_nil] at pm3
        exact hn _ _ ⟨y4, got, rfl, x3, hm3, pm3⟩
    rintro σ' H3 ⟨y4, ys, rfl, x3, h3, pm3⟩
    simp only [L2.start, cxOf, tRet, tAndV, tOrV, tNotV, tCB, tCons, tNil, tVar, tC, tOp, tUn, tTest, tB, tIf, tIfS, tSeq, tAsg, tAnd, tOr, tNot, gName, tNext, tCall, tChain, rI, rI0, rEq, rNe, rGcd, rU, tM1, tM0, tSl, tPart, tNoPart, gTup, gCons, gNil, gSub, tTup, tLst, tPar, L2.rI, List.map_cons, List.map_nil, List.length_cons, List.length_nil, List.cons_append, List.nil_append, List.append_nil, List.getElem?_cons_zero, List.getElem?_cons_succ, List.set_cons_zero, List.set_cons_succ, Option.some.injEq, exists_eq_left, exists_eq_left', exists_eq_right, exists_and_left, exists_and_right, List.cons.injEq, and_true, true_and, V.int.injEq, V.str.injEq, V.bl.injEq, V.ref.injEq, List.replicate, Nat.reduceAdd, Nat.reduceSub, reduceCtorEq, false_and, and_false, if_true, if_false, Bool.false_eq_true, Bool.not_true, Bool.not_false, decide_eq_true_eq, exists_false, or_false, false_or]
    exact q H3 pm ys x3 npm h3 pm3
end
end W22

set_option Elab.async false
set_option linter.all false
set_option maxRecDepth 100000
set_option maxHeartbeats 4000000
/-! TX22: _law_texts -/
namespace W22
open PySem PySem.Spec PyProof.Rows L2 Lay
open SX (S S_len S_cat S_tl)
open C8 (Cal pe_c pe_gc fnScope_by E0)
/-- a node and its text -/
def TxtAt (H : Hp) (ns : List P22.Tr) (us : List V) : Prop := Paired (fun n v => ∃ c y, v = .ref c ∧ H c = some (.tup [y, spV n]) ∧ TrAt H n y) ns us
theorem TxtAt.same {H H' : Hp} {ns : List P22.Tr} {us : List V} (h : TxtAt H ns us) (e : Same H H') : TxtAt H' ns us := L2.Paired.mapP h fun n v ⟨c, y, e1, e2, e3⟩ => ⟨c, y, e1, e _ _ e2, e3.same e⟩
theorem TxtAt.app {H : Hp} {ns ms : List P22.Tr} {us vs : List V} (h : TxtAt H ns us) (k : TxtAt H ms vs) : TxtAt H (ns ++ ms) (us ++ vs) := by
  unfold TxtAt at *
  induction h with
  | nil => exact k
  | cons r t ih => exact .cons r ih
theorem nodes_last (t : P22.Tr) : ∃ ini, P22.nodes t = ini ++ [t] := by
  cases t with
  | leaf w => exact ⟨[], rfl⟩
  | node l r => exact ⟨_, rfl⟩
theorem paired_last {α β : Type} {R : α → β → Prop} {x : α} : ∀ {xs : List α} {ys : List β}, Paired R (xs ++ [x]) ys → ∃ zs y, ys = zs ++ [y] ∧ R x y
  | [], _, .cons r .nil => ⟨[], _, rfl, r⟩
  | _ :: xs, _, .cons r t => by
    obtain ⟨zs, y, e, k⟩ := paired_last (xs := xs) t
    exact ⟨_ :: zs, y, by rw [e]; rfl, k⟩
section
variable {P : Program} {w : World} {K : PySem.W.Frag} {mg : Str → Option Value} {base : Heap} {f : Addr} {fd : FuncData}
theorem sd62 : FnScope ["tree", "left", "right"] ["tree"] (defScope (top 62)) := fnScope_by (by decide +kernel)
def spTexts (n : Nat) : Sp := fun vs H Q _ => ∃ v t, vs = [v] ∧ TrAt H t v ∧ depth t ≤ n ∧ (P22.nodes t).length ≤ 10000 ∧ (P22.spell t).length ≤ 100000 ∧ ∀ H' a us, Same H H' → H a = none → H' a = some (.lst us) → TxtAt H' (P22.nodes t) us → Q (.ref a) H'
theorem ok_texts_step (m : Mg K mg) (F : Fn K "_law_texts" 62 f fd) (g : mg "_law_texts" = some (.ref f)) (n : Nat) (c__law_texts : n = 0 ∨ Cal P w K mg base n "_law_texts" (spTexts (n - 1)) []) : Cal P w K mg base (n + 1) "_law_texts" (spTexts n) [] := by
  have sc := sd62
  refine calD F g sc (fun _ _ _ _ _ _ us hl => match us, hl with | [_], _ => rfl) ?_ fun cdv A outer s H vs Q E hr h => ?_
  · rintro vs H Q E ⟨v, t, rfl, _⟩
    rfl
  · obtain ⟨v, t, rfl, tr, dp, hz, hs, q⟩ := h
    rcases c__law_texts with rfl | c__law_texts
    · refine ⟨_, pss_cons (ps_if (pt_val (pe_callB call_isB (by rfl) m.isinstance_ boot_isinstance (pa_cons (pv 0) (pa_cons (pe_bltn (v := .ty "str") (by rfl) m.str_ boot_str rfl) pa_nil)))) (pss_one (ps_ret (pe_lst (pa_cons (pe_tup (pa_cons (pv 0) (pa_cons (pv 0) pa_nil))) pa_nil)))) pss_nil) pss_never, ?_⟩
      cases t with
      | node l r => exact absurd dp (by show ¬ (max (depth l) (depth r) + 1 ≤ 0); omega)
      | leaf u =>
        obtain rfl : v = .str (S u) := tr
        simp only [L2.start, cxOf, tRet, tAndV, tOrV, tNotV, tCB, tCons, tNil, tVar, tC, tOp, tUn, tTest, tB, tIf, tIfS, tSeq, tAsg, tAnd, tOr, tNot, gName, tNext, tCall, tChain, rI, rI0, rEq, rNe, rGcd, rU, tM1, tM0, tSl, tPart, tNoPart, gTup, gCons, gNil, gSub, tTup, tLst, tPar, L2.rI, List.map_cons, List.map_nil, List.length_cons, List.length_nil, List.cons_append, List.nil_append, List.append_nil, List.getElem?_cons_zero, List.getElem?_cons_succ, List.set_cons_zero, List.set_cons_succ, Option.some.injEq, exists_eq_left, exists_eq_left', exists_eq_right, exists_and_left, exists_and_right, List.cons.injEq, and_true, true_and, V.int.injEq, V.str.injEq, V.bl.injEq, V.ref.injEq, List.replicate, Nat.reduceAdd, Nat.reduceSub, reduceCtorEq, false_and, and_false, if_true, if_false, Bool.false_eq_true, Bool.not_true, Bool.not_false, decide_eq_true_eq, exists_false, or_false, false_or]
        exact isi_t (T := "str") kd_str ⟨small (by decide), fun c hc => ⟨small (by decide), fun a ha => q _ a _ ((same_new hc).trans (same_new ha)) ((same_new hc).fresh ha) upd_same (.cons ⟨c, .str (S u), rfl, same_new ha _ _ upd_same, rfl⟩ .nil)⟩⟩
    · refine ⟨_, (pss_cons (ps_if (pt_val (pe_callB call_isB (by rfl) m.isinstance_ boot_isinstance (pa_cons (pv 0) (pa_cons (pe_bltn (v := .ty "str") (by rfl) m.str_ boot_str rfl) pa_nil))))
        (pss_one (ps_ret (pe_lst (pa_cons (pe_tup (pa_cons (pv 0) (pa_cons (pv 0) pa_nil))) pa_nil))))
        pss_nil)
      (pss_cons (ps_set (i := 1) sc.nd rfl (.inl rfl) (pe_c c__law_texts hr (Nat.le_refl _) (by rfl) (pa_cons (pe_ix ix_tup (pv 0) pe_int (fun _ _ => rfl)) pa_nil)))
      (pss_cons (ps_set (i := 2) sc.nd rfl (.inl rfl) (pe_c c__law_texts hr (Nat.le_refl _) (by rfl) (pa_cons (pe_ix ix_tup (pv 0) pe_int (fun _ _ => rfl)) pa_nil)))
      (pss_one (ps_ret (pe_op op_cat (pe_op op_cat (pv 1) (pv 2)) (pe_lst (pa_cons (pe_tup (pa_cons (pv 0) (pa_cons (pe_op op_add_str (pe_op op_add_str (pe_op op_add_str (pe_op op_add_str pe_str (pe_ix ix_tup (pe_ix ix_list (pv 1) (pe_un un_neg pe_int) (fun _ _ => rfl)) pe_int (fun _ _ => rfl))) pe_str) (pe_ix ix_tup (pe_ix ix_list (pv 2) (pe_un un_neg pe_int) (fun _ _ => rfl)) pe_int (fun _ _ => rfl))) pe_str) pa_nil))) pa_nil)))))))), ?_⟩
      simp only [L2.start, cxOf, tRet, tAndV, tOrV, tNotV, tCB, tCons, tNil, tVar, tC, tOp, tUn, tTest, tB, tIf, tIfS, tSeq, tAsg, tAnd, tOr, tNot, gName, tNext, tCall, tChain, rI, rI0, rEq, rNe, rGcd, rU, tM1, tM0, tSl, tPart, tNoPart, gTup, gCons, gNil, gSub, tTup, tLst, tPar, L2.rI, List.map_cons, List.map_nil, List.length_cons, List.length_nil, List.cons_append, List.nil_append, List.append_nil, List.getElem?_cons_zero, List.getElem?_cons_succ, List.set_cons_zero, List.set_cons_succ, Option.some.injEq, exists_eq_left, exists_eq_left', exists_eq_right, exists_and_left, exists_and_right, List.cons.injEq, and_true, true_and, V.int.injEq, V.str.injEq, V.bl.injEq, V.ref.injEq, List.replicate, Nat.reduceAdd, Nat.reduceSub, reduceCtorEq, false_and, and_false, if_true, if_false, Bool.false_eq_true, Bool.not_true, Bool.not_false, decide_eq_true_eq, exists_false, or_false, false_or, spTexts, rCat]
      cases t with
      | leaf u =>
        obtain rfl : v = .str (S u) := tr
        exact isi_t (T := "str") kd_str ⟨small (by decide), fun c hc => ⟨small (by decide), fun a ha => q _ a _ ((same_new hc).trans (same_new ha)) ((same_new hc).fresh ha) upd_same (.cons ⟨c, .str (S u), rfl, same_new ha _ _ upd_same, rfl⟩ .nil)⟩⟩
      | node l r =>
        obtain ⟨a, x, y, rfl, ha, hl, hr2⟩ := tr
        have szl := sizeLine_eq
        have dp2 : max (depth l) (depth r) + 1 ≤ n := dp
        have hz2 : (P22.nodes l).length + (P22.nodes r).length + 1 ≤ 10000 := by
          simp only [P22.nodes, List.length_append, List.length_cons, List.length_nil] at hz
          omega
        have hs2 : (P22.spell l).length + (P22.spell r).length + 3 ≤ 100000 := by
          simp only [P22.spell, List.length_append, List.length_cons, List.length_nil] at hs
          omega
        refine isi_f (T := "str") (kd_tup ha) (ixT ha 0 rfl ⟨l, hl, by omega, by omega, by omega, fun H1 a1 us1 s1 n1 e1 al1 => ixT (s1 _ _ ha) 1 rfl ⟨r, hr2.same s1, by omega, by omega, by omega, fun H2 a2 us2 s2 n2 e2 al2 => ?_⟩⟩)
        have b1 := s2 _ _ e1
        have ln1 : (P22.nodes l).length = us1.length := al1.length
        have ln2 : (P22.nodes r).length = us2.length := al2.length
        have e40 : Str.ofString "(" = S [40] := by decide +kernel
        have e41 : Str.ofString ")" = S [41] := by decide +kernel
        have e32 : Str.ofString " " = S [32] := by decide +kernel
        simp only [e40, e41, e32]
        obtain ⟨ini1, ei1⟩ := nodes_last l
        obtain ⟨ini2, ei2⟩ := nodes_last r
        obtain ⟨z1, u1, eu1, c1, y1, rfl, h1, _⟩ := paired_last (ei1 ▸ al1)
        obtain ⟨z2, u2, eu2, c2, y2, rfl, h2, _⟩ := paired_last (ei2 ▸ al2)
        refine ⟨_, b1, _, e2, by omega, fun p hp => ?_⟩
        have s3 := same_new (o := .lst (us1 ++ us2)) hp
        refine ⟨a1, us1, -1, .ref c1, rfl, rfl, SqL.of (s3 _ _ b1), by rw [eu1]; exact atI_last _ _, ixT (s3 _ _ (s2 _ _ h1)) 1 rfl ⟨_, rfl, ?_, ?_, ?_⟩⟩
        · rw [S_len, S_len, szl]
          simp only [List.length_cons, List.length_nil]
          omega
        · rw [S_cat, S_len, S_len, szl]
          simp only [List.length_append, List.length_cons, List.length_nil]
          omega
        refine ⟨a2, us2, -1, .ref c2, rfl, rfl, SqL.of (s3 _ _ e2), by rw [eu2]; exact atI_last _ _, ixT (s3 _ _ h2) 1 rfl ⟨_, rfl, ?_, ?_, ?_⟩⟩
        · rw [S_cat, S_cat, S_len, S_len, szl]
          simp only [List.length_append, List.length_cons, List.length_nil]
          omega
        · rw [S_cat, S_cat, S_cat, S_len, S_len, szl]
          simp only [List.length_append, List.length_cons, List.length_nil]
          omega
        have et : S [40] ++ S (P22.spell l) ++ S [32] ++ S (P22.spell r) ++ S [41] = S (P22.spell (.node l r)) := by
          rw [S_cat, S_cat, S_cat, S_cat]
          simp [P22.spell]
        rw [et]
        refine ⟨small (by decide), fun p1 hp1 => ⟨small (by decide), fun p2 hp2 => ?_⟩⟩
        have s4 := same_new (o := .tup [V.ref a, V.str (S (P22.spell (.node l r)))]) hp1
        have s5 := same_new (o := .lst [V.ref p1]) hp2
        refine ⟨_, s5 _ _ (s4 _ _ upd_same), _, upd_same, by rw [List.length_append, ← ln1, ← ln2, szl]; simp; omega, fun p3 hp3 => ?_⟩
        have s6 := same_new (o := .lst (us1 ++ us2 ++ [V.ref p1])) hp3
        have s36 := ((s3.trans s4).trans s5).trans s6
        have sall := (s1.trans s2).trans s36
        refine q _ p3 _ sall (((s1.trans s2).trans ((s3.trans s4).trans s5)).fresh hp3) upd_same ?_
        exact TxtAt.app (TxtAt.app (al1.same (s2.trans s36)) (al2.same s36)) (.cons ⟨p1, .ref a, rfl, s6 _ _ (s5 _ _ upd_same), ⟨a, x, y, rfl, sall _ _ ha, hl.same sall, hr2.same sall⟩⟩ .nil)
theorem ok_texts (m : Mg K mg) (F : Fn K "_law_texts" 62 f fd) (g : mg "_law_texts" = some (.ref f)) : ∀ n, Cal P w K mg base (n + 1) "_law_texts" (spTexts n) []
  | 0 => ok_texts_step m F g 0 (.inl rfl)
  | n + 1 => ok_texts_step m F g (n + 1) (.inr (ok_texts m F g n))
end
end W22

set_option Elab.async false
set_option linter.all false
set_option maxRecDepth 100000
set_option maxHeartbeats 4000000
/-! BB22: what is told of a caught error -/
namespace W22
open PySem PySem.Spec PyProof.Rows L2 Lay L2H
open SX (S S_len S_cat S_tl)
open C8 (Cal pe_c pe_gc fnScope_by E0 sl_txt rSlX)
theorem bootX_ValueError : bootBuiltins "ValueError" = some (.type "ValueError") := by decide +kernel
theorem bootX_LookupError : bootBuiltins "LookupError" = some (.type "LookupError") := by decide +kernel
theorem bootX_RuntimeError : bootBuiltins "RuntimeError" = some (.type "RuntimeError") := by decide +kernel
theorem pe_never {X : Cx} {e : Expr} : PE X e (fun _ _ _ => False) := ⟨fun _ _ _ _ _ _ h => h.elim⟩
theorem dictP_same {H H' : Hp} {o : Obj} (d : DictP H o) (e : Same H H') : DictP H' o := d.imp id fun ⟨dd, fs, h1, h2⟩ => ⟨dd, fs, h1, e _ _ h2⟩
section
variable {K : PySem.W.Frag} {D : Addr}
/-- one mark -/
def tMark (K : PySem.W.Frag) (D : Addr) (p : Addr × Obj) (n : Str) (c : V) : TE := tTup (tCons (tC (.str n)) (tCons (tCB (rIsP K D p) (tCons (tVar 0) (tCons (tC c) tNil))) tNil))
abbrev Mrk : Type := Str × V × Bool
def tMarks (K : PySem.W.Frag) (D : Addr) (p : Addr × Obj) : List Mrk → TA
  | [] => tNil
  | mk :: r => tCons (tMark K D p mk.1 mk.2.1) (tMarks K D p r)
def MrkOk (K : PySem.W.Frag) (D : Addr) (mk : Mrk) : Prop := ∃ cv, (∀ u, RelV mk.2.1 u → u = cv) ∧ PySem.W.kitOne K (.ref D) cv = some mk.2.2
/-- the marks at ts -/
abbrev Marks (H : Hp) (ms : List Mrk) (ts : List V) : Prop := Paired (fun (mk : Mrk) v => ∃ t, v = .ref t ∧ H t = some (.tup [.str mk.1, .bl mk.2.2])) ms ts
theorem Marks.same {H H' : Hp} {ms : List Mrk} {ts : List V} (h : Marks H ms ts) (e : Same H H') : Marks H' ms ts := by
  induction h with
  | nil => exact .nil
  | cons r t ih =>
    obtain ⟨a, ea, ha⟩ := r
    exact .cons ⟨a, ea, e _ _ ha⟩ ih
theorem Marks.app {H : Hp} {ms ns : List Mrk} {ts us : List V} (h : Marks H ms ts) (k : Marks H ns us) : Marks H (ms ++ ns) (ts ++ us) := by
  induction h with
  | nil => exact k
  | cons r t ih => exact .cons r ih
theorem marks_run {p : Addr × Obj} {σ : L2.St} (hσ : σ[0]? = some (some (.ref p.1))) : ∀ (ms : List Mrk) (H : Hp) (R : List V → Hp → Prop), (∀ mk ∈ ms, MrkOk K D mk) → DictP H p.2 →
    (∀ ts H', Same H H' → Marks H' ms ts → R ts H') → tMarks K D p ms σ H R
  | [], H, R, _, _, k => k [] H (Same.refl H) .nil
  | mk :: r, H, R, ok, dp, k => by
    obtain ⟨cv, h1, h2⟩ := ok mk List.mem_cons_self
    refine ⟨_, hσ, _, cv, _, rfl, h1, h2, dp, small (by simp), fun t ht => ?_⟩
    have s1 : Same H (upd H t (.tup [.str mk.1, .bl mk.2.2])) := same_new ht
    refine marks_run hσ r _ _ (fun x hx => ok x (List.mem_cons_of_mem _ hx)) (dictP_same dp s1) fun ts H' s2 pr => ?_
    exact k (.ref t :: ts) H' (s1.trans s2) (.cons ⟨t, rfl, s2 _ _ upd_same⟩ pr)
/-- the word of a mark that says yes -/
def fW (H : Hp) : V → Option V
  | .ref t => (match H t with
    | some (.tup [.str n, .bl true]) => some (.str n)
    | _ => none)
  | _ => none
theorem fW_at {H : Hp} {t : Addr} {n : Str} {b : Bool} (h : H t = some (.tup [.str n, .bl b])) : fW H (.ref t) = if b = true then some (.str n) else none := by
  cases b <;> simp only [fW, h] <;> rfl
theorem paired_right {α β : Type} {R : α → β → Prop} : ∀ {xs : List α} {ys : List β} {y : β}, Paired R xs ys → y ∈ ys → ∃ x, R x y
  | _, _, _, .nil, h => by cases h
  | _, _, _, .cons r t, h => by
    rcases List.mem_cons.mp h with e | h
    · rw [e]; exact ⟨_, r⟩
    · exact paired_right t h
theorem marks_words {H : Hp} : ∀ {ms : List Mrk} {ts : List V}, Marks H ms ts → ts.filterMap (fW H) = (ms.filter (fun mk => mk.2.2)).map (fun mk => V.str mk.1)
  | _, _, .nil => rfl
  | _, _, @Paired.cons _ _ _ mk v ms ts h t => by
    obtain ⟨a, rfl, ha⟩ := h
    rw [List.filterMap_cons, fW_at ha, List.filter_cons, marks_words t]
    cases mk.2.2 <;> rfl
/-- [pair[0] for pair in pairs if pair[1]] -/
theorem lc_marks {σ : L2.St} {H : Hp} {Q : VK} {ms : List Mrk} {ts : List V} {l : Addr} (hσ : σ[1]? = some (some (.ref l))) (hl : H l = some (.lst ts)) (pr : Marks H ms ts)
    (hw : ∀ x, wipe ((wipe σ [3]).set 3 (some x)) [3] = wipe σ [3]) (hi : ∀ x : V, ((wipe σ [3]).set 3 (some x))[3]? = some (some x)) (k : ∀ a, H a = none → Q (.ref a) (upd H a (.lst ((ms.filter (fun mk => mk.2.2)).map (fun mk => V.str mk.1))))) :
    tLcW K (tVar 1) (gName 3) (tB (tOp (rIxT K) (tVar 3) (tC (.int 1)))) (tOp (rIxT K) (tVar 3) (tC (.int 0))) [3] σ H Q := by
  refine ⟨_, hσ, l, ts, fW H, rfl, SqL.of hl, fun a acc y ha hy => ?_, fun a ha => ?_⟩
  · obtain ⟨mk, t, rfl, ht⟩ := paired_right pr hy
    have ht2 : (upd H a (.lst acc)) t = some (.tup [.str mk.1, .bl mk.2.2]) := (same_new ha) _ _ ht
    refine ⟨rfl, hw _, ?_⟩
    simp only [tB, tOp, tVar, tC, hi, Option.some.injEq, exists_eq_left']
    refine ixT ht2 1 rfl ⟨_, rfl, rfl, ?_⟩
    rw [fW_at ht]
    cases mk.2.2 with
    | false => exact rfl
    | true => exact ⟨rfl, ixT ht2 0 rfl ⟨rfl, rfl⟩⟩
  · rw [marks_words pr]
    exact k a ha
theorem lst_marks {p : Addr × Obj} {σ : L2.St} {H : Hp} {Dn : Ends} {ms : List Mrk} (h0 : σ[0]? = some (some (.ref p.1))) (ok : ∀ mk ∈ ms, MrkOk K D mk) (dp : DictP H p.2) (few : ms.length ≤ 1000)
    (k : ∀ l' H' ts', Same H H' → H' l' = some (.lst ts') → Marks H' ms ts' → Dn.nx (σ.set 1 (some (.ref l'))) H') : tAsg (tLst (tMarks K D p ms)) (gName 1) Dn σ H := by
  refine marks_run h0 ms H _ ok dp fun ts H1 s1 pr => ⟨?_, fun l hl => ?_⟩
  · rw [← pr.length]
    exact small (by omega)
  · exact k l _ ts (s1.trans (same_new hl)) upd_same (pr.same (same_new hl))
theorem cat_marks {p : Addr × Obj} {σ : L2.St} {H : Hp} {Dn : Ends} {ms0 ms : List Mrk} {ts : List V} {l : Addr} (h0 : σ[0]? = some (some (.ref p.1))) (h1 : σ[1]? = some (some (.ref l))) (hl : H l = some (.lst ts)) (pr : Marks H ms0 ts) (ok : ∀ mk ∈ ms, MrkOk K D mk) (dp : DictP H p.2) (few : ms0.length + ms.length ≤ 1000)
    (k : ∀ l' H' ts', Same H H' → H' l' = some (.lst ts') → Marks H' (ms0 ++ ms) ts' → Dn.nx (σ.set 1 (some (.ref l'))) H') : tAsg (tOp rCat (tVar 1) (tLst (tMarks K D p ms))) (gName 1) Dn σ H := by
  refine ⟨_, h1, marks_run h0 ms H _ ok dp fun us H1 s1 pr1 => ⟨?_, fun a ha => ?_⟩⟩
  · rw [← pr1.length]
    exact small (by omega)
  · have s2 := s1.trans (same_new (o := .lst us) ha)
    refine ⟨l, a, ts, us, rfl, rfl, s2 _ _ hl, upd_same, ?_, fun b hb => ?_⟩
    · rw [← pr1.length, ← pr.length]
      exact small (by omega)
    · exact k b _ _ (s2.trans (same_new hb)) upd_same ((pr.same (s2.trans (same_new hb))).app (pr1.same ((same_new ha).trans (same_new hb))))
theorem asg_marks {σ : L2.St} {H : Hp} {Dn : Ends} {ms : List Mrk} {ts : List V} {l : Addr} (ws : List V) (hws : (ms.filter (fun mk => mk.2.2)).map (fun mk => V.str mk.1) = ws) (hσ : σ[1]? = some (some (.ref l))) (hl : H l = some (.lst ts)) (pr : Marks H ms ts)
    (hw : ∀ x, wipe ((wipe σ [3]).set 3 (some x)) [3] = wipe σ [3]) (hi : ∀ x : V, ((wipe σ [3]).set 3 (some x))[3]? = some (some x)) (k : ∀ a, H a = none → Dn.nx (σ.set 2 (some (.ref a))) (upd H a (.lst ws))) :
    tAsg (tLcW K (tVar 1) (gName 3) (tB (tOp (rIxT K) (tVar 3) (tC (.int 1)))) (tOp (rIxT K) (tVar 3) (tC (.int 0))) [3]) (gName 2) Dn σ H := lc_marks (Q := fun x H1 => gName 2 x σ H1 Dn.nx) hσ hl pr hw hi (by rw [hws]; exact k)
/-- found[0] in (..) -/
theorem in_test {H5 H : Hp} {fo : Addr} {z : Str} {r xs : List V} {n : Nat} {R : VK} {b : Bool} (s : Same H5 H) (f5 : H5 fo = some (.lst (.str z :: r))) (fl : xs.all flatV = true) (nz : inV (.str z) xs = b) (hn : n ≤ 16777216) (k : ∀ H', Same H5 H' → R (.bl b) H') :
    rIxL K (.ref fo) (.int 0) H fun x H1 => n ≤ sizeLine ∧ ∀ p, H1 p = none → rIn K false x (.ref p) (upd H1 p (.tup xs)) R := by
  refine ixL (SqL.of (s _ _ f5)) 0 rfl ⟨small hn, fun p hp => ⟨p, xs, rfl, .inr (sqT_of upd_same), rfl, fl, ?_⟩⟩
  rw [if_neg (by decide), nz]
  exact k _ (s.trans (same_new hp))
end
section
variable {P : Program} {w : World} {K : PySem.W.Frag} {mg : Str → Option Value} {base : Heap} {f fU CU : Addr} {fd fdU : FuncData}
theorem sd48 : FnScope ["e", "pairs", "found", "pair"] ["e"] (defScope (top 48)) := fnScope_by (by decide +kernel)
def spErrU (CU : Addr) (p : Addr × Obj) : Sp := fun vs H Q _ => ∃ (dd : Addr) (v : V), vs = [.ref p.1] ∧ p.2.cls = .ref CU ∧ (∃ fs, p.2.data = .fields fs) ∧ p.2.dict = some dd ∧ H dd = some (.xd [("what", v)]) ∧
  ∀ H' l, Same H H' → H l = none → H' l = some (.lst [.str "Unlike", v, .str "ValueError"]) → Q (.ref l) H'
theorem ok_errU (m : Mg K mg) (B : Unl K mg CU fU fdU) (F : Fn K "_law_error" 48 f fd) (g : mg "_law_error" = some (.ref f)) : CalE P w K mg base 1 "_law_error" (spErrU CU) := by
  have sc := sd48
  refine calE F g sc (fun _ _ _ _ _ _ us hl => match us, hl with | [_], _ => rfl) ?_ fun p cdv A outer s H vs Q E hot hr h => ?_
  · rintro p vs H Q E ⟨dd, z, rfl, _⟩
    rfl
  · obtain ⟨dd, z, rfl, hc, hf, hdi, hdd, q⟩ := h
    have hp := hasP_cx (CX := C8.CX0) (P := P) (w := w) (K := K) (mg := mg) (base := base) (N := ["e", "pairs", "found", "pair"]) (qual := "_law_error") (scope := defScope (top 48)) (f := f) (cd := cdv) (outer := outer) (s := s) (H := H) (E := E) hot
    obtain ⟨C_BadBook, g_BadBook, _, k_BadBook⟩ := B.own "BadBook" (by decide)
    obtain ⟨C_BadTree, g_BadTree, _, k_BadTree⟩ := B.own "BadTree" (by decide)
    obtain ⟨C_BadForm, g_BadForm, _, k_BadForm⟩ := B.own "BadForm" (by decide)
    obtain ⟨C_BadPaper, g_BadPaper, _, k_BadPaper⟩ := B.own "BadPaper" (by decide)
    obtain ⟨C_BadDrawing, g_BadDrawing, _, k_BadDrawing⟩ := B.own "BadDrawing" (by decide)
    obtain ⟨C_BadScript, g_BadScript, _, k_BadScript⟩ := B.own "BadScript" (by decide)
    obtain ⟨C_BadPart, g_BadPart, _, k_BadPart⟩ := B.own "BadPart" (by decide)
    obtain ⟨C_BadNumber, g_BadNumber, _, k_BadNumber⟩ := B.own "BadNumber" (by decide)
    obtain ⟨C_BadLot, g_BadLot, _, k_BadLot⟩ := B.own "BadLot" (by decide)
    obtain ⟨C_NotOne, g_NotOne, _, k_NotOne⟩ := B.own "NotOne" (by decide)
    obtain ⟨C_Lied, g_Lied, _, k_Lied⟩ := B.own "Lied" (by decide)
    obtain ⟨C_Unlike, g_Unlike, _, k_Unlike⟩ := B.own "Unlike" (by decide)
    obtain ⟨C_TooMany, g_TooMany, _, k_TooMany⟩ := B.own "TooMany" (by decide)
    obtain ⟨C_NoSuch, g_NoSuch, _, k_NoSuch⟩ := B.own "NoSuch" (by decide)
    obtain ⟨C_Ended, g_Ended, _, k_Ended⟩ := B.own "Ended" (by decide)
    obtain ⟨g_ValueError, k_ValueError⟩ := B.blt "ValueError" (by decide)
    obtain ⟨g_LookupError, k_LookupError⟩ := B.blt "LookupError" (by decide)
    obtain ⟨g_RuntimeError, k_RuntimeError⟩ := B.blt "RuntimeError" (by decide)
    refine ⟨_, (pss_cons (ps_set (i := 1) sc.nd rfl (.inl rfl) (pe_lst (show PA _ _ (tMarks K CU p [("BadBook", .ref C_BadBook, false), ("BadTree", .ref C_BadTree, false), ("BadForm", .ref C_BadForm, false)]) from (pa_cons (pe_tup (pa_cons pe_str (pa_cons (pe_callB (call_isP hp.mem B.exc hc hf) (by rfl) m.isinstance_ boot_isinstance (pa_cons (pv 0) (pa_cons (pe_glob (v := .ref C_BadBook) (by rfl) g_BadBook rfl) pa_nil))) pa_nil)))
        (pa_cons (pe_tup (pa_cons pe_str (pa_cons (pe_callB (call_isP hp.mem B.exc hc hf) (by rfl) m.isinstance_ boot_isinstance (pa_cons (pv 0) (pa_cons (pe_glob (v := .ref C_BadTree) (by rfl) g_BadTree rfl) pa_nil))) pa_nil)))
        (pa_cons (pe_tup (pa_cons pe_str (pa_cons (pe_callB (call_isP hp.mem B.exc hc hf) (by rfl) m.isinstance_ boot_isinstance (pa_cons (pv 0) (pa_cons (pe_glob (v := .ref C_BadForm) (by rfl) g_BadForm rfl) pa_nil))) pa_nil)))
        pa_nil))))))
      (pss_cons (ps_set (i := 1) sc.nd rfl (.inl rfl) (pe_op op_cat (pv 1) (pe_lst (show PA _ _ (tMarks K CU p [("BadPaper", .ref C_BadPaper, false), ("BadDrawing", .ref C_BadDrawing, false), ("BadScript", .ref C_BadScript, false)]) from (pa_cons (pe_tup (pa_cons pe_str (pa_cons (pe_callB (call_isP hp.mem B.exc hc hf) (by rfl) m.isinstance_ boot_isinstance (pa_cons (pv 0) (pa_cons (pe_glob (v := .ref C_BadPaper) (by rfl) g_BadPaper rfl) pa_nil))) pa_nil)))
        (pa_cons (pe_tup (pa_cons pe_str (pa_cons (pe_callB (call_isP hp.mem B.exc hc hf) (by rfl) m.isinstance_ boot_isinstance (pa_cons (pv 0) (pa_cons (pe_glob (v := .ref C_BadDrawing) (by rfl) g_BadDrawing rfl) pa_nil))) pa_nil)))
        (pa_cons (pe_tup (pa_cons pe_str (pa_cons (pe_callB (call_isP hp.mem B.exc hc hf) (by rfl) m.isinstance_ boot_isinstance (pa_cons (pv 0) (pa_cons (pe_glob (v := .ref C_BadScript) (by rfl) g_BadScript rfl) pa_nil))) pa_nil)))
        pa_nil)))))))
      (pss_cons (ps_set (i := 1) sc.nd rfl (.inl rfl) (pe_op op_cat (pv 1) (pe_lst (show PA _ _ (tMarks K CU p [("BadPart", .ref C_BadPart, false), ("BadNumber", .ref C_BadNumber, false), ("BadLot", .ref C_BadLot, false)]) from (pa_cons (pe_tup (pa_cons pe_str (pa_cons (pe_callB (call_isP hp.mem B.exc hc hf) (by rfl) m.isinstance_ boot_isinstance (pa_cons (pv 0) (pa_cons (pe_glob (v := .ref C_BadPart) (by rfl) g_BadPart rfl) pa_nil))) pa_nil)))
        (pa_cons (pe_tup (pa_cons pe_str (pa_cons (pe_callB (call_isP hp.mem B.exc hc hf) (by rfl) m.isinstance_ boot_isinstance (pa_cons (pv 0) (pa_cons (pe_glob (v := .ref C_BadNumber) (by rfl) g_BadNumber rfl) pa_nil))) pa_nil)))
        (pa_cons (pe_tup (pa_cons pe_str (pa_cons (pe_callB (call_isP hp.mem B.exc hc hf) (by rfl) m.isinstance_ boot_isinstance (pa_cons (pv 0) (pa_cons (pe_glob (v := .ref C_BadLot) (by rfl) g_BadLot rfl) pa_nil))) pa_nil)))
        pa_nil)))))))
      (pss_cons (ps_set (i := 1) sc.nd rfl (.inl rfl) (pe_op op_cat (pv 1) (pe_lst (show PA _ _ (tMarks K CU p [("NotOne", .ref C_NotOne, false), ("Lied", .ref C_Lied, false), ("Unlike", .ref C_Unlike, true)]) from (pa_cons (pe_tup (pa_cons pe_str (pa_cons (pe_callB (call_isP hp.mem B.exc hc hf) (by rfl) m.isinstance_ boot_isinstance (pa_cons (pv 0) (pa_cons (pe_glob (v := .ref C_NotOne) (by rfl) g_NotOne rfl) pa_nil))) pa_nil)))
        (pa_cons (pe_tup (pa_cons pe_str (pa_cons (pe_callB (call_isP hp.mem B.exc hc hf) (by rfl) m.isinstance_ boot_isinstance (pa_cons (pv 0) (pa_cons (pe_glob (v := .ref C_Lied) (by rfl) g_Lied rfl) pa_nil))) pa_nil)))
        (pa_cons (pe_tup (pa_cons pe_str (pa_cons (pe_callB (call_isP hp.mem B.exc hc hf) (by rfl) m.isinstance_ boot_isinstance (pa_cons (pv 0) (pa_cons (pe_glob (v := .ref C_Unlike) (by rfl) g_Unlike rfl) pa_nil))) pa_nil)))
        pa_nil)))))))
      (pss_cons (ps_set (i := 1) sc.nd rfl (.inl rfl) (pe_op op_cat (pv 1) (pe_lst (show PA _ _ (tMarks K CU p [("TooMany", .ref C_TooMany, false), ("NoSuch", .ref C_NoSuch, false), ("Ended", .ref C_Ended, false)]) from (pa_cons (pe_tup (pa_cons pe_str (pa_cons (pe_callB (call_isP hp.mem B.exc hc hf) (by rfl) m.isinstance_ boot_isinstance (pa_cons (pv 0) (pa_cons (pe_glob (v := .ref C_TooMany) (by rfl) g_TooMany rfl) pa_nil))) pa_nil)))
        (pa_cons (pe_tup (pa_cons pe_str (pa_cons (pe_callB (call_isP hp.mem B.exc hc hf) (by rfl) m.isinstance_ boot_isinstance (pa_cons (pv 0) (pa_cons (pe_glob (v := .ref C_NoSuch) (by rfl) g_NoSuch rfl) pa_nil))) pa_nil)))
        (pa_cons (pe_tup (pa_cons pe_str (pa_cons (pe_callB (call_isP hp.mem B.exc hc hf) (by rfl) m.isinstance_ boot_isinstance (pa_cons (pv 0) (pa_cons (pe_glob (v := .ref C_Ended) (by rfl) g_Ended rfl) pa_nil))) pa_nil)))
        pa_nil)))))))
      (pss_cons (ps_setLcW (i := 2) (own := [("pair", 3)]) (g := gName 3) hp.warm sc.nd rfl rfl (sw_true rfl rfl rfl (by decide +kernel)) (pv 1) (blkOk_by (own := [("pair", 3)]) (N := ["e", "pairs", "found", "pair"]) (sc := defScope (top 48)) (by decide +kernel)) (fun _ _ _ _ _ => pg_name (i := 3) sc.nd rfl (.inl rfl)) (fun _ _ _ _ _ => pts_one (pt_val (pe_ix (show IxR _ (rIxT K) from ix_tup) (pv 3) pe_int (fun _ _ => rfl)))) (fun _ _ _ _ _ => pe_ix (show IxR _ (rIxT K) from ix_tup) (pv 3) pe_int (fun _ _ => rfl)))
      (pss_cons (ps_if (pt_cmpR op_in_seq (pe_ix ix_list (pv 2) pe_int (fun _ _ => rfl)) (pe_tup (pa_cons pe_str (pa_cons pe_str (pa_cons pe_str (pa_cons pe_str (pa_cons pe_str pa_nil)))))) rfl)
        (pss_one ps_never)
        (pss_one (ps_if (pt_cmpR op_in_seq (pe_ix ix_list (pv 2) pe_int (fun _ _ => rfl)) (pe_tup (pa_cons pe_str (pa_cons pe_str pa_nil))) rfl)
        (pss_one ps_never)
        (pss_one (ps_if (pt_cmpR op_in_seq (pe_ix ix_list (pv 2) pe_int (fun _ _ => rfl)) (pe_tup (pa_cons pe_str (pa_cons pe_str (pa_cons pe_str pa_nil)))) rfl)
        (pss_one ps_never)
        (pss_one (ps_if (pt_cmpR op_in_seq (pe_ix ix_list (pv 2) pe_int (fun _ _ => rfl)) (pe_tup (pa_cons pe_str (pa_cons pe_str (pa_cons pe_str pa_nil)))) rfl)
        (pss_one (ps_set (i := 2) sc.nd rfl (.inl rfl) (pe_op op_cat (pv 2) (pe_ifExp (pt_cmpR op_eq (pe_ix ix_list (pv 2) pe_int (fun _ _ => rfl)) pe_str (nomark _)) pe_never (pe_lst (pa_cons (pe_xp hp.mem B.xf B.noF hf (pv 0)) pa_nil))))))
        pss_nil)))))))
      (pss_cons (ps_if ((pw_and (pt_cmpR op_eq (pe_slice sl_txt (pe_ix ix_list (pv 2) pe_int (fun _ _ => rfl)) po_none (po_some pe_int)) pe_str (nomark _)) (pw_and1 (pt_cmpR op_ne (pe_ix ix_list (pv 2) pe_int (fun _ _ => rfl)) pe_str (nomark _)))).pt)
        (pss_one ps_never)
        pss_nil)
      (pss_cons (ps_set (i := 1) sc.nd rfl (.inl rfl) (pe_lst (show PA _ _ (tMarks K CU p [("ValueError", .ty "ValueError", true), ("LookupError", .ty "LookupError", false), ("RuntimeError", .ty "RuntimeError", false)]) from (pa_cons (pe_tup (pa_cons pe_str (pa_cons (pe_callB (call_isP hp.mem B.exc hc hf) (by rfl) m.isinstance_ boot_isinstance (pa_cons (pv 0) (pa_cons (pe_bltn (v := .ty "ValueError") (by rfl) g_ValueError bootX_ValueError rfl) pa_nil))) pa_nil)))
        (pa_cons (pe_tup (pa_cons pe_str (pa_cons (pe_callB (call_isP hp.mem B.exc hc hf) (by rfl) m.isinstance_ boot_isinstance (pa_cons (pv 0) (pa_cons (pe_bltn (v := .ty "LookupError") (by rfl) g_LookupError bootX_LookupError rfl) pa_nil))) pa_nil)))
        (pa_cons (pe_tup (pa_cons pe_str (pa_cons (pe_callB (call_isP hp.mem B.exc hc hf) (by rfl) m.isinstance_ boot_isinstance (pa_cons (pv 0) (pa_cons (pe_bltn (v := .ty "RuntimeError") (by rfl) g_RuntimeError bootX_RuntimeError rfl) pa_nil))) pa_nil)))
        pa_nil))))))
      (pss_one (ps_ret (pe_op op_cat (pv 2) (pe_lcW (own := [("pair", 3)]) (g := gName 3) hp.warm sc.nd (pv 1) (blkOk_by (own := [("pair", 3)]) (N := ["e", "pairs", "found", "pair"]) (sc := defScope (top 48)) (by decide +kernel)) (fun _ _ _ _ _ => pg_name (i := 3) sc.nd rfl (.inl rfl)) (fun _ _ _ _ _ => pts_one (pt_val (pe_ix (show IxR _ (rIxT K) from ix_tup) (pv 3) pe_int (fun _ _ => rfl)))) (fun _ _ _ _ _ => pe_ix (show IxR _ (rIxT K) from ix_tup) (pv 3) pe_int (fun _ _ => rfl))))))))))))))), ?_⟩
    have dP : ∀ {H' : Hp}, Same H H' → DictP H' p.2 := fun e => .inr ⟨dd, _, hdi, e _ _ hdd⟩
    refine lst_marks rfl (by
      intro mk hm
      simp only [List.mem_cons, List.not_mem_nil, or_false] at hm
      rcases hm with rfl | rfl | rfl
      · exact ⟨_, fun u r => r, k_BadBook⟩
      · exact ⟨_, fun u r => r, k_BadTree⟩
      · exact ⟨_, fun u r => r, k_BadForm⟩) (dP (Same.refl H)) (by simp) fun l0 H0 ts0 s0 e0 pr0 => ?_
    refine cat_marks rfl rfl e0 pr0 (by
      intro mk hm
      simp only [List.mem_cons, List.not_mem_nil, or_false] at hm
      rcases hm with rfl | rfl | rfl
      · exact ⟨_, fun u r => r, k_BadPaper⟩
      · exact ⟨_, fun u r => r, k_BadDrawing⟩
      · exact ⟨_, fun u r => r, k_BadScript⟩) (dP s0) (by simp) fun l1 H1 ts1 s1 e1 pr1 => ?_
    have s1 := s0.trans s1
    refine cat_marks rfl rfl e1 pr1 (by
      intro mk hm
      simp only [List.mem_cons, List.not_mem_nil, or_false] at hm
      rcases hm with rfl | rfl | rfl
      · exact ⟨_, fun u r => r, k_BadPart⟩
      · exact ⟨_, fun u r => r, k_BadNumber⟩
      · exact ⟨_, fun u r => r, k_BadLot⟩) (dP s1) (by simp) fun l2 H2 ts2 s2 e2 pr2 => ?_
    have s2 := s1.trans s2
    refine cat_marks rfl rfl e2 pr2 (by
      intro mk hm
      simp only [List.mem_cons, List.not_mem_nil, or_false] at hm
      rcases hm with rfl | rfl | rfl
      · exact ⟨_, fun u r => r, k_NotOne⟩
      · exact ⟨_, fun u r => r, k_Lied⟩
      · exact ⟨_, fun u r => r, k_Unlike⟩) (dP s2) (by simp) fun l3 H3 ts3 s3 e3 pr3 => ?_
    have s3 := s2.trans s3
    refine cat_marks rfl rfl e3 pr3 (by
      intro mk hm
      simp only [List.mem_cons, List.not_mem_nil, or_false] at hm
      rcases hm with rfl | rfl | rfl
      · exact ⟨_, fun u r => r, k_TooMany⟩
      · exact ⟨_, fun u r => r, k_NoSuch⟩
      · exact ⟨_, fun u r => r, k_Ended⟩) (dP s3) (by simp) fun l4 H4 ts4 s4 e4 pr4 => ?_
    have s4 := s3.trans s4
    refine asg_marks [.str "Unlike"] rfl rfl e4 pr4 (fun _ => rfl) (fun _ => rfl) fun fo hfo => ?_
    have s5 := s4.trans (same_new (o := .lst [.str "Unlike"]) hfo)
    have n5 : H fo = none := s4.free hfo
    have f5 : (upd H4 fo (.lst [.str "Unlike"])) fo = some (.lst [.str "Unlike"]) := upd_same
    have dd5 := s5 _ _ hdd
    generalize upd H4 fo (.lst [.str "Unlike"]) = H5 at s5 f5 dd5
    have ix0 : ∀ {H' : Hp} {R : VK}, Same H5 H' → R (.str "Unlike") H' → rIxL K (.ref fo) (.int ((0 : Nat) : Int)) H' R := fun e k => ixL (SqL.of (e _ _ f5)) 0 rfl k
    simp only [L2.start, cxOf, tRet, tAndV, tOrV, tNotV, tCB, tCons, tNil, tVar, tC, tOp, tUn, tTest, tB, tIf, tIfS, tSeq, tAsg, tAnd, tOr, tNot, gName, tNext, tCall, tChain, rI, rI0, rEq, rNe, rGcd, rU, tM1, tM0, tSl, tPart, tNoPart, gTup, gCons, gNil, gSub, tTup, tLst, tPar, L2.rI, List.map_cons, List.map_nil, List.length_cons, List.length_nil, List.cons_append, List.nil_append, List.append_nil, List.getElem?_cons_zero, List.getElem?_cons_succ, List.set_cons_zero, List.set_cons_succ, Option.some.injEq, exists_eq_left, exists_eq_left', exists_eq_right, exists_and_left, exists_and_right, List.cons.injEq, and_true, true_and, V.int.injEq, V.str.injEq, V.bl.injEq, V.ref.injEq, List.replicate, Nat.reduceAdd, Nat.reduceSub, reduceCtorEq, false_and, and_false, if_true, if_false, Bool.false_eq_true, Bool.not_true, Bool.not_false, decide_eq_true_eq, exists_false, or_false, false_or, List.set_cons_zero, L2H.cxH]
    refine in_test (Same.refl H5) f5 (by decide) (b := false) (by decide +kernel) (by decide) fun J1 t1 => ⟨_, rfl, ?_⟩
    rw [if_neg (by decide)]
    refine in_test t1 f5 (by decide) (b := false) (by decide +kernel) (by decide) fun J2 t2 => ⟨_, rfl, ?_⟩
    rw [if_neg (by decide)]
    refine in_test t2 f5 (by decide) (b := false) (by decide +kernel) (by decide) fun J2b t2b => ⟨_, rfl, ?_⟩
    rw [if_neg (by decide)]
    refine in_test t2b f5 (by decide) (b := true) (by decide +kernel) (by decide) fun J3 t3 => ⟨_, rfl, ?_⟩
    rw [if_pos rfl]
    simp only [L2.start, cxOf, tRet, tAndV, tOrV, tNotV, tCB, tCons, tNil, tVar, tC, tOp, tUn, tTest, tB, tIf, tIfS, tSeq, tAsg, tAnd, tOr, tNot, gName, tNext, tCall, tChain, rI, rI0, rEq, rNe, rGcd, rU, tM1, tM0, tSl, tPart, tNoPart, gTup, gCons, gNil, gSub, tTup, tLst, tPar, L2.rI, List.map_cons, List.map_nil, List.length_cons, List.length_nil, List.cons_append, List.nil_append, List.append_nil, List.getElem?_cons_zero, List.getElem?_cons_succ, List.set_cons_zero, List.set_cons_succ, Option.some.injEq, exists_eq_left, exists_eq_left', exists_eq_right, exists_and_left, exists_and_right, List.cons.injEq, and_true, true_and, V.int.injEq, V.str.injEq, V.bl.injEq, V.ref.injEq, List.replicate, Nat.reduceAdd, Nat.reduceSub, reduceCtorEq, false_and, and_false, if_true, if_false, Bool.false_eq_true, Bool.not_true, Bool.not_false, decide_eq_true_eq, exists_false, or_false, false_or, rSlX]
    refine ix0 t3 ⟨rfl, ?_⟩
    rw [if_neg (by decide +kernel)]
    refine ⟨_, rfl, rfl, hc, dd, _, _, hdi, t3 _ _ dd5, rfl, small (by decide), fun p2 h2 => ?_⟩
    have t6 := Same.trans t3 (same_new (o := .lst [z]) h2)
    refine ⟨fo, p2, _, _, rfl, rfl, t6 _ _ f5, upd_same, small (show (2 : Nat) ≤ 16777216 by decide), fun fo2 hf2 => ?_⟩
    have t7 := Same.trans t6 (same_new (o := .lst ([V.str "Unlike"] ++ [z])) hf2)
    have k3 := upd_same (H := upd J3 p2 (.lst [z])) (a := fo2) (o := .lst ([V.str "Unlike"] ++ [z]))
    generalize upd (upd J3 p2 (.lst [z])) fo2 (.lst ([V.str "Unlike"] ++ [z])) = J7 at t7 k3 ⊢
    refine ixL (SqL.of k3) 0 rfl ⟨_, rfl, small (by decide +kernel), rfl, ?_⟩
    rw [if_neg (by decide +kernel)]
    refine marks_run rfl _ _ _ (by
      intro mk hm
      simp only [List.mem_cons, List.not_mem_nil, or_false] at hm
      rcases hm with rfl | rfl | rfl
      · exact ⟨_, fun u r => r, k_ValueError⟩
      · exact ⟨_, fun u r => r, k_LookupError⟩
      · exact ⟨_, fun u r => r, k_RuntimeError⟩) (dP (s5.trans t7)) fun us H8 s8 pr8 => ⟨?_, fun l5 hl5 => ?_⟩
    · rw [← pr8.length]
      exact small (by simp)
    · have s9 := s8.trans (same_new (o := .lst us) hl5)
      refine lc_marks rfl upd_same (pr8.same (same_new hl5)) (fun _ => rfl) (fun _ => rfl) fun a ha => ?_
      have s10 := s9.trans (same_new (o := .lst [V.str "ValueError"]) ha)
      refine ⟨fo2, a, _, _, rfl, rfl, s10 _ _ k3, upd_same, small (show (3 : Nat) ≤ 16777216 by decide), fun b hb => ?_⟩
      have s11 := s10.trans (same_new (o := .lst [V.str "Unlike", z, V.str "ValueError"]) hb)
      exact q _ b ((s5.trans t7).trans s11) ((s5.trans t7).free (s10.free hb)) upd_same
end
end W22


set_option Elab.async false
set_option linter.all false
set_option maxRecDepth 100000
set_option maxHeartbeats 4000000
/-! CC22: _law_try, _law_refused -/
namespace W22
open PySem PySem.Spec PyProof.Rows L2 Lay L2H
open SX (S S_len S_cat S_tl)
open C8 (Cal pe_c pe_gc fnScope_by E0)
section
variable {P : Program} {w : World} {K : PySem.W.Frag} {mg : Str → Option Value} {base : Heap} {f fU CU : Addr} {fd fdU : FuncData}
theorem sd49 : FnScope ["call", "e"] ["call"] (defScope (top 49)) := fnScope_by (by decide +kernel)
/-- what is wished of an error that the lambda lets out -/
def ErrK (CU : Addr) (Q : VK) : XK := fun cls d H' => cls = .ref CU ∧ ∃ dd v, d = some dd ∧ H' dd = some (.xd [("what", v)]) ∧ ∀ H'' l, Same H' H'' → H' l = none → H'' l = some (.lst [.str "Unlike", v, .str "ValueError"]) → Q (.ref l) H''
def spTry (CU : Addr) : (Hp → VK → XK → Prop) → Sp := fun spL vs H Q _ => vs = [] ∧ ∀ H1 t, Same H H1 → H t = none → H1 t = some (.tup [.str "told"]) → spL H1 (fun v H' => [V.ref t, v].length ≤ sizeLine ∧ ∀ l, H' l = none → Q (.ref l) (upd H' l (.lst [.ref t, v]))) (ErrK CU Q)
theorem ok_try (N : Unl K mg CU fU fdU) (c_errU : CalE P w K mg base 1 "_law_error" (spErrU CU)) (F : Fn K "_law_try" 49 f fd) (g : mg "_law_try" = some (.ref f)) (j : Nat) (hj : 1 ≤ j) : CalL P w K mg base (j + 1) j "_law_try" (spTry CU) := by
  have sc := sd49
  refine calL F g sc (fun _ _ _ _ _ _ us hl => match us, hl with | [_], _ => rfl) ?_ fun cdv A outer s H vs fl spL Q E hr l h => ?_
  · rintro spL vs H Q E ⟨rfl, _⟩
    rfl
  · obtain ⟨rfl, q⟩ := h
    obtain ⟨C_BadBook, g_BadBook, n_BadBook, _⟩ := N.own "BadBook" (by decide)
    obtain ⟨C_BadTree, g_BadTree, n_BadTree, _⟩ := N.own "BadTree" (by decide)
    obtain ⟨C_BadForm, g_BadForm, n_BadForm, _⟩ := N.own "BadForm" (by decide)
    obtain ⟨C_BadPaper, g_BadPaper, n_BadPaper, _⟩ := N.own "BadPaper" (by decide)
    obtain ⟨C_BadDrawing, g_BadDrawing, n_BadDrawing, _⟩ := N.own "BadDrawing" (by decide)
    obtain ⟨C_BadScript, g_BadScript, n_BadScript, _⟩ := N.own "BadScript" (by decide)
    obtain ⟨C_BadPart, g_BadPart, n_BadPart, _⟩ := N.own "BadPart" (by decide)
    obtain ⟨C_BadNumber, g_BadNumber, n_BadNumber, _⟩ := N.own "BadNumber" (by decide)
    obtain ⟨C_BadLot, g_BadLot, n_BadLot, _⟩ := N.own "BadLot" (by decide)
    obtain ⟨C_NotOne, g_NotOne, n_NotOne, _⟩ := N.own "NotOne" (by decide)
    obtain ⟨C_Lied, g_Lied, n_Lied, _⟩ := N.own "Lied" (by decide)
    obtain ⟨C_Unlike, g_Unlike, n_Unlike, _⟩ := N.own "Unlike" (by decide)
    obtain ⟨C_TooMany, g_TooMany, n_TooMany, _⟩ := N.own "TooMany" (by decide)
    obtain ⟨C_NoSuch, g_NoSuch, n_NoSuch, _⟩ := N.own "NoSuch" (by decide)
    obtain ⟨C_Ended, g_Ended, n_Ended, _⟩ := N.own "Ended" (by decide)
    have mN : PySem.W.exmAny K (.ref CU) [.ref C_BadBook, .ref C_BadTree, .ref C_BadForm, .ref C_BadPaper, .ref C_BadDrawing, .ref C_BadScript, .ref C_BadPart, .ref C_BadNumber] = some false := by
      simp only [PySem.W.exmAny, n_BadBook, n_BadTree, n_BadForm, n_BadPaper, n_BadDrawing, n_BadScript, n_BadPart, n_BadNumber]
      decide +kernel
    have mN2 : PySem.W.exmAny K (.ref CU) [.ref C_BadLot, .ref C_NotOne, .ref C_Lied, .ref C_Unlike, .ref C_TooMany, .ref C_NoSuch, .ref C_Ended] = some true := by
      simp only [PySem.W.exmAny, n_BadLot, n_NotOne, n_Lied, n_Unlike, n_TooMany, n_NoSuch, n_Ended]
      decide +kernel
    refine ⟨_, pss_one (ps_try_all (i := 1) rfl rfl sc.nd rfl rfl takes_no (fun W pn xe tk _ => pss_one (ps_ret (pe_lst (pa_cons (pe_tup (pa_cons pe_str pa_nil)) (pa_cons (pe_actW (i := 0) rfl l hr tk rfl (.inl rfl)) pa_nil)))))
      (HdsA.cons (tst_tup (.cons ⟨rfl, by decide, .inl g_BadBook⟩ (.cons ⟨rfl, by decide, .inl g_BadTree⟩ (.cons ⟨rfl, by decide, .inl g_BadForm⟩ (.cons ⟨rfl, by decide, .inl g_BadPaper⟩ (.cons ⟨rfl, by decide, .inl g_BadDrawing⟩ (.cons ⟨rfl, by decide, .inl g_BadScript⟩ (.cons ⟨rfl, by decide, .inl g_BadPart⟩ (.cons ⟨rfl, by decide, .inl g_BadNumber⟩ .nil)))))))) (by simp)) (fun p pn hp hf => pss_one (ps_ret (pe_cE c_errU (roomH_mark hr _) hj hp (by rfl) (pa_cons (pv 1) pa_nil))))
        (HdsA.cons (tst_tup (.cons ⟨rfl, by decide, .inl g_BadLot⟩ (.cons ⟨rfl, by decide, .inl g_NotOne⟩ (.cons ⟨rfl, by decide, .inl g_Lied⟩ (.cons ⟨rfl, by decide, .inl g_Unlike⟩ (.cons ⟨rfl, by decide, .inl g_TooMany⟩ (.cons ⟨rfl, by decide, .inl g_NoSuch⟩ (.cons ⟨rfl, by decide, .inl g_Ended⟩ .nil))))))) (by simp)) (fun p pn hp hf => pss_one (ps_ret (pe_cE c_errU (roomH_mark hr _) hj hp (by rfl) (pa_cons (pv 1) pa_nil))))
        HdsA.nil))), ?_⟩
    refine ⟨small (by decide), fun t ht => ⟨ErrK CU Q, ?_, rfl, ?_⟩⟩
    · rintro cls d H' ⟨rfl, dd, v, rfl, hd, k⟩
      refine ⟨false, mN, (fun z => nomatch z), fun _ => ⟨true, mN2, fun _ p hc hdict hf hfree => ?_, (fun z => nomatch z)⟩⟩
      exact ⟨_, rfl, dd, v, rfl, hc, hf, hdict, hd, fun H'' l s2 nl bl => k H'' l s2 nl bl⟩
    · exact q _ t (same_new ht) ht upd_same
/-- a def that is handed a lambda hands it on -/
theorem pe_cL {X : Cx} {k j m i : Nat} {x a : Str} {fl : Addr} {SP : (Hp → VK → XK → Prop) → Sp} {spL : Hp → VK → XK → Prop} {es : List Expr} {t : TA} {q p1 pos : Pos} (c : CalL X.prog X.w X.K X.mg X.base k j x SP) (hex : X.ex = [])
    (l : LamOk X.prog X.w X.K X.mg X.base (L2N.CX X.prog X.w) j X.fs X.s_0 X.H_0 fl spL) (hr : Room m X.A) (hk : k ≤ m) (hg : Gl X x) (hN : X.N[i]? = some a) (hv : Vis X.env.scope a) (ha : PA X es t)
    (hd : (a == ("__debug__" : Str)) = false := by decide) (hcd : (a == ("__classdict__" : Str)) = false := by decide) (hdb : (x == ("__debug__" : Str)) = false := by decide)
    (he : starEach (.Name a p1 :: es) X.env = (false, eval (.Name a p1) X.env) :: starEach es X.env := by rfl) (hpl : (backTo pos (starEach es X.env)).any (·.1) = false := by rfl) :
    PE X (.Call (.Name x q) (.Name a p1 :: es) [] pos) (fun σ H Q => σ[i]? = some (some (.ref fl)) ∧ t σ H fun vs H1 => SP spL vs H1 Q C8.E0) := by
  obtain ⟨f, fd, ps, F, hm, kp, b⟩ := c.ex
  exact pe_passL (E := fun _ => C8.E0) F hex l (hr.mono hk) hg hm kp b (fun σ _ _ _ _ _ _ h => h.elim) hN hv ha hd hcd hdb he hpl
theorem sd51 : FnScope ["call", "due"] ["call", "due"] (defScope (top 51)) := fnScope_by (by decide +kernel)
/-- an error that is due: what stands at a tells it -/
def ErrIs (CU : Addr) (H : Hp) (a : Addr) : XK := fun cls d H' => cls = .ref CU ∧ ∃ dd z, d = some dd ∧ H' dd = some (.xd [("what", .str z)]) ∧ H a = some (.lst [.str "Unlike", .str z, .str "ValueError"])
def spRef (CU : Addr) : (Hp → VK → XK → Prop) → Sp := fun spL vs H Q _ => ∃ a, vs = [.ref a] ∧ (∀ (H1 : Hp) (Q' : VK) (E' : XK), Same H H1 → (∀ cls d H', Same H1 H' → ErrIs CU H a cls d H' → E' cls d H') → spL H1 Q' E') ∧ ∀ H', Same H H' → Q (.bl true) H'
theorem lk_str {n : Nat} {H : Hp} {z : Str} : Lk (n + 1) H (.str z) (.str z) := .inl ⟨z, rfl, rfl⟩
theorem ok_refused (c_like : Cal P w K mg base 3 "_law_like" (spLike 3) []) (j : Nat) (c_try : CalL P w K mg base (j + 1) j "_law_try" (spTry CU)) (hj : 2 ≤ j) (F : Fn K "_law_refused" 51 f fd) (g : mg "_law_refused" = some (.ref f)) : CalL P w K mg base (j + 2) j "_law_refused" (spRef CU) := by
  have sc := sd51
  refine calL F g sc (fun _ _ _ _ _ _ us hl => match us, hl with | [_, _], _ => rfl) ?_ fun cdv A outer s H vs fl spL Q E hr l h => ?_
  · rintro spL vs H Q E ⟨a, rfl, _⟩
    rfl
  · obtain ⟨a, rfl, sp, q⟩ := h
    refine ⟨_, pss_one (ps_ret (pe_c c_like hr (by omega) (by rfl) (pa_cons (pe_cL (i := 0) c_try rfl l hr (Nat.le_refl _) (by rfl) rfl (.inl rfl) pa_nil) (pa_cons (pv 1) pa_nil)))), ?_⟩
    refine ⟨rfl, rfl, fun H1 t s1 n1 ht => sp H1 _ _ s1 fun cls d H' s2 er => ?_⟩
    have s02 := s1.trans s2
    obtain ⟨rfl, dd, z, rfl, hd, due⟩ := er
    · refine ⟨rfl, dd, .str z, rfl, hd, fun H'' r s3 nr hr1 => ?_⟩
      have s03 := s02.trans s3
      refine ⟨_, rfl, _, _, rfl, .inr ⟨r, a, _, _, rfl, rfl, .inl ⟨hr1, s03 _ _ due⟩, rfl, by simp, fun i u v g1 g2 => ?_⟩, fun H4 s4 => q H4 (s03.trans s4)⟩
      match i, g1, g2 with
      | 0, g1, g2 =>
        cases g1; cases g2
        exact lk_str
      | 1, g1, g2 =>
        cases g1; cases g2
        exact lk_str
      | 2, g1, g2 =>
        cases g1; cases g2
        exact lk_str
end
end W22

set_option Elab.async false
set_option linter.all false
set_option maxRecDepth 100000
set_option maxHeartbeats 4000000
/-! KK22: the written part's facts -/
namespace W22
open PySem PySem.Spec PyProof.Rows L2 Lay LamX
open C8 (Cal Mak)
theorem oexG_ok {K : PySem.W.Frag} {C : Addr} {n : String} {tail : List Value} (h : oexG K C n tail = true) : ∃ nm q N bs sn sub ab col dd k0 k1 k2 k3 k5, K.lookup C = some (excClassObj nm q C N bs tail true sn sub ab col dd k0 k1 k2 k3 k5 n) := by
  unfold oexG at h
  split at h
  · rename_i t dd cd sl e
    split at h
    · rename_i C' bm k0 k1 k2 k3 n' k5 e1 e2
      obtain ⟨h1, h⟩ := He.ba h
      obtain ⟨h2, h⟩ := He.ba h
      obtain ⟨h3, h⟩ := He.ba h
      obtain ⟨h4, h⟩ := He.ba h
      obtain ⟨h5, h6⟩ := He.ba h
      obtain rfl := of_decide_eq_true h1
      obtain rfl := of_decide_eq_true h2
      obtain rfl := of_decide_eq_true h3
      obtain rfl := of_decide_eq_true h6
      obtain ⟨nm, bs, mro, ns, qn, hd, sn, sub, ab, col, hdel⟩ := cd
      have e1 : mro = .ref C' :: bm := e1
      have h4 : (!hdel) = true := h4
      have h5 : hd = true := h5
      obtain rfl : hdel = false := by
        cases hdel with
        | false => rfl
        | true => cases h4
      subst e1 h5
      have e3 : sl = #[k0, k1, k2, k3, some (.builtin n'), k5] := by
        apply Array.ext'
        exact e2
      exact ⟨nm, qn, ns, bs, sn, sub, ab, col, dd, k0, k1, k2, k3, k5, by rw [e, e3]⟩
    · cases h
  · cases h
/-- what excB says -/
structure ExcP (K : PySem.W.Frag) (x : Str) (base n : String) (f : Str) : Prop where
  ox : oexG K (He.ga K x) n [.type base, .type "Exception", .type "BaseException", .type "object"] = true
  xf : XfC K (He.ga K x)
  noF : PySem.W.findIn K (.ref (He.ga K x)) f = some none
  sa : PySem.W.findIn K (.ref (He.ga K x)) "__setattr__" = some (some (.builtin "object.__setattr__"))
  ty : PySem.W.typeIn K (.ref (He.ga K x)) = some (.type "type")
  init : PySem.W.findIn K (.ref (He.ga K x)) "__init__" = some (some (.ref (He.fAd K (x, some "__init__"))))
  initT : PySem.W.typeIn K (.ref (He.fAd K (x, some "__init__"))) = some (.type "function")
  cl : PySem.W.findIn K (.ref (He.ga K x)) "__class__" = some (some (.builtin "object.__class__"))
  mo : PySem.W.mroIn K (He.ga K x) (.type "object") = some true
  own : ∀ y ∈ excs, PySem.W.exmOne K (.ref (He.ga K x)) (.ref (He.ga K y)) = some (decide (y = x)) ∧ PySem.W.kitOne K (.ref (He.ga K x)) (.ref (He.ga K y)) = some (decide (y = x))
  blt : ∀ y ∈ (["ValueError", "LookupError", "RuntimeError"] : List String), PySem.W.kitOne K (.ref (He.ga K x)) (.type y) = some (decide (y = base))
theorem excB_ok {K : PySem.W.Frag} {x : Str} {base n : String} {f : Str} (h : excB K x base n f = true) : ExcP K x base n f := by
  unfold excB at h
  obtain ⟨h1, h⟩ := He.ba h
  obtain ⟨h2, h⟩ := He.ba h
  obtain ⟨h3, h⟩ := He.ba h
  obtain ⟨h4, h⟩ := He.ba h
  obtain ⟨h5, h⟩ := He.ba h
  obtain ⟨h6, h⟩ := He.ba h
  obtain ⟨h7, h⟩ := He.ba h
  obtain ⟨h8, h⟩ := He.ba h
  obtain ⟨h9, h⟩ := He.ba h
  obtain ⟨h10, h11⟩ := He.ba h
  refine ⟨h1, xfB_ok h2, of_decide_eq_true h3, of_decide_eq_true h4, of_decide_eq_true h5, of_decide_eq_true h6, of_decide_eq_true h7, of_decide_eq_true h8, of_decide_eq_true h9, fun y hy => ?_, fun y hy => of_decide_eq_true (List.all_eq_true.mp h11 y hy)⟩
  obtain ⟨a, b⟩ := He.ba (List.all_eq_true.mp h10 y hy)
  exact ⟨of_decide_eq_true a, of_decide_eq_true b⟩
theorem vals_strs : ∀ {us : List Value} {ys : List Str}, us.map (fun v => match v with | .str y _ => some y | _ => none) = ys.map some → Vals (ys.map V.str) us
  | [], [], _ => .nil
  | u :: us, y :: ys, h => by
    rw [List.map_cons, List.map_cons, List.cons.injEq] at h
    refine .cons ?_ (vals_strs h.2)
    have h1 := h.1
    cases u with
    | str z t =>
      have e : some z = some y := h1
      cases e
      exact ⟨t, rfl⟩
    | _ => cases h1
theorem tupS_ok {K : PySem.W.Frag} {x : Str} {ys : List Str} (h : tupB K x ys = true) (hl : ys.length ≤ 1000) (H : Hp) : SqT K H (He.ga K x) (ys.map V.str) := by
  unfold tupB at h
  split at h
  · rename_i t its n sl e
    obtain ⟨h1, h2⟩ := He.ba h
    obtain rfl := of_decide_eq_true h1
    have h2 := of_decide_eq_true h2
    have l := congrArg List.length h2
    rw [List.length_map, List.length_map] at l
    have szl := sizeLine_eq
    exact .inr ⟨_, its, n, e, rfl, rfl, by rw [← Array.length_toList, l]; omega, vals_strs h2⟩
  · cases h
theorem mem_at {f : He.Fa} (i : Nat) (h : fas[i]? = some f) : f ∈ fas := List.mem_of_getElem? h
section
variable {w : World} {K : PySem.W.Frag} {h : Heap} {mg : Str → Option Value}
/-- all that exB says -/
structure All (K : PySem.W.Frag) : Prop where
  bt : ExcP K "BadTree" "ValueError" "ValueError.__new__" "why"
  ns : ExcP K "NoSuch" "LookupError" "LookupError.__new__" "name"
  un : ExcP K "Unlike" "ValueError" "ValueError.__new__" "what"
  sp : PySem.W.specialIn K (.builtin "object.__class__") "__get__" = some (some (.builtin "getset_descriptor.__get__"))
  tk : PySem.W.takesIn K (.builtin "object.__class__") = some true
  me : PySem.W.kitOne K (.ref (He.ga K "Tree")) (.ref (He.ga K "Tree")) = some true
  tc : PySem.W.findIn K (.ref (He.ga K "Tree")) "__class__" = some (some (.builtin "object.__class__"))
  tm : PySem.W.mroIn K (He.ga K "Tree") (.type "object") = some true
  dd : tupB K "DEEDS" deeds = true
  rr : tupB K "RESERVED" reserved = true
  dg : PySem.W.nsIn K cStatics "sys.int_max_str_digits" = some none
theorem all_of (c : He.SaysX fas fns [] tfs exB w h K) : All K := by
  have m := c.more
  unfold exB at m
  obtain ⟨m1, m⟩ := He.ba m
  obtain ⟨m2, m⟩ := He.ba m
  obtain ⟨m3, m⟩ := He.ba m
  obtain ⟨m4, m⟩ := He.ba m
  obtain ⟨m5, m⟩ := He.ba m
  obtain ⟨m6, m⟩ := He.ba m
  obtain ⟨m7, m⟩ := He.ba m
  obtain ⟨m8, m⟩ := He.ba m
  obtain ⟨m9, m⟩ := He.ba m
  obtain ⟨m10, m11⟩ := He.ba m
  exact ⟨excB_ok m1, excB_ok m2, excB_ok m3, of_decide_eq_true m4, of_decide_eq_true m5, of_decide_eq_true m6, of_decide_eq_true m7, of_decide_eq_true m8, m9, m10, of_decide_eq_true m11⟩
theorem rel_of (X : K.In h) (G : h.Ns mainGlobals mg) (c : He.SaysX fas fns [] tfs exB w h K) {x : Str} {base n : String} {f : Str} (p : ExcP K x base n f) (hx : x ∈ excs) : Rel K mg (He.ga K x) x base := by
  have A := all_of c
  have gl : ∀ y ∈ excs, mg y = some (.ref (He.ga K y)) := fun y hy => He.glo_ok X G (c.t.d.facts (List.mem_append_left _ (List.mem_append_left _ (List.mem_append_left _ (List.mem_append_right _ (List.mem_map_of_mem hy))))))
  refine ⟨p.xf, ⟨p.xf.ga, p.xf.gg, p.xf.exC, p.xf.hdC, p.cl, A.sp, A.tk, p.mo⟩, gl x hx, fun y hy => ⟨_, gl y hy, (p.own y hy).1, (p.own y hy).2⟩, fun y hy => ⟨He.free_ok X G (c.t.d.facts ?_), p.blt y hy⟩⟩
  simp only [List.mem_cons, List.not_mem_nil, or_false] at hy
  rcases hy with rfl | rfl | rfl
  · exact mem_at 66 rfl
  · exact mem_at 67 rfl
  · exact mem_at 68 rfl
theorem bad_of (X : K.In h) (G : h.Ns mainGlobals mg) (c : He.SaysX fas fns [] tfs exB w h K) : ∃ fdI, Bad K mg (He.ga K "BadTree") (He.fAd K ("BadTree", some "__init__")) fdI := by
  obtain ⟨fdI, FI⟩ := c.t.d.def_ 43 (d := metD "BadTree" "__init__" "BadTree.__init__" 2 0) rfl
  have p := (all_of c).bt
  obtain ⟨nm, q, N, bs, sn, sub, ab, col, dd, k0, k1, k2, k3, k5, e⟩ := oexG_ok p.ox
  exact ⟨fdI, { rel_of X G c p (by decide) with
    oex := ⟨⟨nm, q, N, bs, _, sn, sub, ab, col, dd, k0, k1, k2, k3, k5, e, by decide +kernel⟩, p.sa, p.xf.exC, p.ty, He.keep_ok (x := "BadTree") (c.t.d.facts (mem_at 84 rfl))⟩
    init := p.init
    initT := p.initT
    F := FI
    noF := p.noF }⟩
theorem nos_of (X : K.In h) (G : h.Ns mainGlobals mg) (c : He.SaysX fas fns [] tfs exB w h K) : ∃ fdI, NoS K mg (He.ga K "NoSuch") (He.fAd K ("NoSuch", some "__init__")) fdI := by
  obtain ⟨fdI, FI⟩ := c.t.d.def_ 44 (d := metD "NoSuch" "__init__" "NoSuch.__init__" 14 0) rfl
  have p := (all_of c).ns
  obtain ⟨nm, q, N, bs, sn, sub, ab, col, dd, k0, k1, k2, k3, k5, e⟩ := oexG_ok p.ox
  exact ⟨fdI, { rel_of X G c p (by decide) with
    oex := ⟨PySem.F.excBase_LookupError, ⟨nm, q, N, bs, sn, sub, ab, col, dd, k0, k1, k2, k3, k5, e⟩, PySem.F.store_LookupError.passes, by decide +kernel, p.sa, p.xf.exC, p.ty, He.keep_ok (x := "NoSuch") (c.t.d.facts (mem_at 85 rfl))⟩
    init := p.init
    initT := p.initT
    F := FI
    noF := p.noF }⟩
theorem unl_of (X : K.In h) (G : h.Ns mainGlobals mg) (c : He.SaysX fas fns [] tfs exB w h K) : ∃ fdI, Unl K mg (He.ga K "Unlike") (He.fAd K ("Unlike", some "__init__")) fdI := by
  obtain ⟨fdI, FI⟩ := c.t.d.def_ 45 (d := metD "Unlike" "__init__" "Unlike.__init__" 12 0) rfl
  have p := (all_of c).un
  obtain ⟨nm, q, N, bs, sn, sub, ab, col, dd, k0, k1, k2, k3, k5, e⟩ := oexG_ok p.ox
  exact ⟨fdI, { rel_of X G c p (by decide) with
    oex := ⟨⟨nm, q, N, bs, _, sn, sub, ab, col, dd, k0, k1, k2, k3, k5, e, by decide +kernel⟩, p.sa, p.xf.exC, p.ty, He.keep_ok (x := "Unlike") (c.t.d.facts (mem_at 86 rfl))⟩
    init := p.init
    initT := p.initT
    F := FI
    noF := p.noF }⟩
theorem mg_of (X : K.In h) (G : h.Ns mainGlobals mg) (c : He.SaysX fas fns [] tfs exB w h K) : Mg K mg ∧ DigK K ∧ Tc K mg ∧ Ti K := by
  have A := all_of c
  have fr : ∀ x : Str, He.Fa.free x ∈ fas → mg x = none := fun x hx => He.free_ok X G (c.t.d.facts hx)
  have gl : ∀ x : Str, He.Fa.glo x ∈ fas → mg x = some (.ref (He.ga K x)) := fun x hx => He.glo_ok X G (c.t.d.facts hx)
  refine ⟨⟨fr _ (mem_at 54 rfl), fr _ (mem_at 55 rfl), fr _ (mem_at 56 rfl), fr _ (mem_at 60 rfl), fr _ (mem_at 57 rfl), fr _ (mem_at 58 rfl), fr _ (mem_at 59 rfl), fr _ (mem_at 61 rfl), fr _ (mem_at 62 rfl), fr _ (mem_at 63 rfl), fr _ (mem_at 53 rfl), fr _ (mem_at 64 rfl), fr _ (mem_at 65 rfl), ?_, ?_, ?_, ?_, ?_, gl _ (mem_at 81 rfl), tupS_ok A.rr (by decide), gl _ (mem_at 82 rfl), tupS_ok A.dd (by decide)⟩, A.dg, ?_, ?_⟩
  · obtain ⟨t, e⟩ := He.int_ok X G (c.t.d.facts (f := .int "MOST_TEXT" 200000) (mem_at 77 rfl))
    exact ⟨_, e, t, rfl⟩
  · obtain ⟨t, e⟩ := He.int_ok X G (c.t.d.facts (f := .int "MOST_SIGNS" 8) (mem_at 76 rfl))
    exact ⟨_, e, t, rfl⟩
  · obtain ⟨t, e⟩ := He.int_ok X G (c.t.d.facts (f := .int "MOST_LEAVES" 24) (mem_at 78 rfl))
    exact ⟨_, e, t, rfl⟩
  · obtain ⟨t, e⟩ := He.str_ok X G (c.t.d.facts (f := .str "LETTERS" "abcdefghijklmnopqrstuvwxyz") (mem_at 79 rfl))
    exact ⟨_, e, t, rfl⟩
  · obtain ⟨t, e⟩ := He.str_ok X G (c.t.d.facts (f := .str "SIGNS" "abcdefghijklmnopqrstuvwxyz0123456789") (mem_at 80 rfl))
    exact ⟨_, e, t, rfl⟩
  · refine ⟨He.cls_ok (c.t.d.facts (mem_at 87 rfl)), gl _ (mem_at 83 rfl), fun x hx => He.noat_ok (c.t.d.facts (List.mem_append_left _ (List.mem_append_right _ (List.mem_map_of_mem hx))))⟩
  · exact ⟨A.tc, A.sp, A.tk, A.tm, A.me⟩
end
end W22

set_option Elab.async false
set_option linter.all false
set_option maxRecDepth 100000
set_option maxHeartbeats 4000000
/-! WK22: _law_walked -/
namespace W22
open PySem PySem.Spec PyProof.Rows L2 Lay
open SX (S S_len S_cat S_tl)
open C8 (Cal pe_c pe_gc fnScope_by E0)
theorem kw_txt : S (P22.kw 0) = ("swap" : Str) ∧ S (P22.kw 1) = ("right" : Str) ∧ S (P22.kw 2) = ("left" : Str) := by decide +kernel
theorem act_done {k : Nat} {n m : P22.Tr} (h : P22.act k n = some m) : doneT (P22.kw k) n = some m := by
  obtain ⟨e0, e1, e2⟩ := kw_txt
  have rs : ¬ ("right" : Str) = ("swap" : Str) := by decide +kernel
  have ls : ¬ ("left" : Str) = ("swap" : Str) := by decide +kernel
  have lr : ¬ ("left" : Str) = ("right" : Str) := by decide +kernel
  unfold P22.act at h
  split at h
  · cases h
    unfold doneT
    dsimp only
    rw [if_pos e0]
  · cases h
    unfold doneT
    dsimp only
    rw [if_neg (by rw [e1]; exact rs), if_pos e1]
  · cases h
    unfold doneT
    dsimp only
    rw [if_neg (by rw [e2]; exact ls), if_neg (by rw [e2]; exact lr), if_pos e2]
  · cases h
theorem kw_name (k : Nat) : P22.Name (P22.kw k) := by
  match k with
  | 0 => exact sig_name (u := [115, 119, 97, 112]) (by decide) (by decide)
  | 1 => exact sig_name (u := [114, 105, 103, 104, 116]) (by decide) (by decide)
  | k + 2 => exact sig_name (u := [108, 101, 102, 116]) (by decide) (by decide)
theorem dtext_words {k : Nat} {n : P22.Tr} (h : P22.Ok n) : P22.words (P22.dtext (k, n)) = P22.kw k :: P22.toks n := by
  show P22.words (P22.kw k ++ 32 :: P22.spell n) = _
  rw [P22.words_front1 (kw_name k), P22.words_spell h]
end W22

set_option Elab.async false
set_option linter.all false
set_option maxRecDepth 100000
set_option maxHeartbeats 4000000
/-! JN22: the words of tokens joined by one space (pure) -/
namespace P22
/-- tokens with one space between -/
def joined : List Wd → List Nat
  | [] => []
  | w :: r => r.foldl (fun x u => x ++ List.replicate 1 32 ++ u) w
theorem join_wrt : ∀ (r : List Wd) {x : List Nat} {ws : List Wd} {last : Wd}, Wrt x ws last → (∀ u ∈ r, Brk u ∨ Name u) → ∃ l, Wrt (r.foldl (fun x u => x ++ List.replicate 1 32 ++ u) x) (ws ++ r) l
  | [], x, ws, last, h, _ => ⟨last, by rw [List.append_nil]; exact h⟩
  | u :: r, x, ws, last, h, k => by
    obtain ⟨l, hl⟩ := join_wrt r (Wrt.next (k := 1) h (k u List.mem_cons_self) (.inr (Nat.le_refl _))) fun v hv => k v (List.mem_cons_of_mem _ hv)
    refine ⟨l, ?_⟩
    rw [show ws ++ u :: r = ws ++ [u] ++ r by rw [List.append_assoc]; rfl]
    exact hl
theorem words_joined {ws : List Wd} (h : ∀ u ∈ ws, Brk u ∨ Name u) : words (joined ws) = ws := by
  cases ws with
  | nil => rfl
  | cons w r =>
    have h0 := Wrt.next (k := 0) (w := w) (Wrt.start (k := 0)) (h w List.mem_cons_self) (.inl (.inl (.inl rfl)))
    obtain ⟨l, hl⟩ := join_wrt r h0 fun u hu => h u (List.mem_cons_of_mem _ hu)
    have d := hl.done (k := 0)
    simpa [joined] using d
end P22

set_option Elab.async false
set_option linter.all false
set_option maxRecDepth 100000
set_option maxHeartbeats 4000000
/-! JL22: the library's join by one space is ours -/
namespace P22
theorem fold_shift : ∀ (r : List Wd) (y x : List Nat), r.foldl (fun x u => x ++ List.replicate 1 32 ++ u) (y ++ x) = y ++ r.foldl (fun x u => x ++ List.replicate 1 32 ++ u) x
  | [], _, _ => rfl
  | u :: r, y, x => by
    rw [List.foldl_cons, List.foldl_cons]
    have := fold_shift r y (x ++ List.replicate 1 32 ++ u)
    rw [← this]
    simp only [List.append_assoc]
theorem joinL_joined : ∀ ws : List Wd, TL.joinL [32] ws = joined ws
  | [] => rfl
  | [w] => by simp [TL.joinL, joined]
  | w :: b :: r => by
    have ih := joinL_joined (b :: r)
    show w ++ ([32] ++ TL.joinL [32] (b :: r)) = _
    rw [ih]
    show w ++ ([32] ++ r.foldl (fun x u => x ++ List.replicate 1 32 ++ u) b) = (b :: r).foldl (fun x u => x ++ List.replicate 1 32 ++ u) w
    rw [List.foldl_cons]
    have := fold_shift r (w ++ [32]) b
    rw [show w ++ List.replicate 1 32 ++ b = w ++ [32] ++ b from rfl, this, List.append_assoc]
end P22

set_option Elab.async false
set_option linter.all false
/-! ON22: the one node of a name (pure) -/
namespace P22
theorem filter_one' {α : Type} [DecidableEq α] {n : α} : ∀ {l : List α}, l.Nodup → n ∈ l → l.filter (fun u => decide (u = n)) = [n]
  | [], _, h => by cases h
  | x :: l, nd, h => by
    have nd2 := List.nodup_cons.mp nd
    by_cases e : x = n
    · subst e
      rw [List.filter_cons_of_pos (by simp)]
      have : l.filter (fun u => decide (u = x)) = [] := by
        rw [List.filter_eq_nil_iff]
        intro u hu z
        rw [of_decide_eq_true z] at hu
        exact nd2.1 hu
      rw [this]
    · rw [List.filter_cons_of_neg (by simp [e])]
      rcases List.mem_cons.mp h with z | z
      · exact absurd z.symm e
      · exact filter_one' nd2.2 z
theorem only_node {T n : Tr} (nd : (leaves T).Nodup) (h : n ∈ nodes T) : (nodes T).filter (fun u => decide (u = n)) = [n] := filter_one' (nodes_nodup nd) h
end P22

set_option Elab.async false
set_option linter.all false
set_option maxRecDepth 100000
set_option maxHeartbeats 4000000
/-! HX22: helpers of the law -/
namespace W22
open PySem PySem.Spec PyProof.Rows L2 Lay LamX
open SX (S S_len S_cat S_tl)
open C8 (Cal Mak pe_c pe_mk pe_gc fnScope_by E0)
theorem mk_tree2 {C : Addr} {T : P22.Tr} {H1 : Hp} {Qx : Addr → Hp → Prop} {E : XK} (h : Fine T) (k : ∀ H' x, Same H1 H' → H1 x = none → TreeAt C H' x T → Qx x H') :
    ∀ x dx, H1 x = none → H1 dx = none → dx ≠ x → spInit C [.ref x, .str (S (P22.spell T))] (upd (upd H1 dx (.own x)) x (.ins C dx [])) (fun v H2 => v = .non ∧ Qx x H2) E := fun x dx hx hdx ne =>
  ⟨x, dx, T, rfl, upd_same, h.good, h.nd, h.few, fun H' kp tr => ⟨rfl, k H' x (fun b u hb => kp b u (ne_of_none hb hx) (by
    rw [upd_ne (ne_of_none hb hx), upd_ne (ne_of_none hb hdx)]
    exact hb)) hx tr⟩⟩
theorem allat_mem {H : Hp} : ∀ {ts : List P22.Tr} {vs : List V} {v : V}, AllAt H ts vs → v ∈ vs → ∃ t ∈ ts, TrAt H t v
  | [], vs, v, h, hv => by
    rw [show vs = [] from h] at hv
    cases hv
  | t :: ts, vs, v, ⟨w, r, e, h1, h2⟩, hv => by
    rw [e] at hv
    rcases List.mem_cons.mp hv with rfl | hv
    · exact ⟨t, List.mem_cons_self, h1⟩
    · obtain ⟨t', ht, q⟩ := allat_mem h2 hv
      exact ⟨t', List.mem_cons_of_mem _ ht, q⟩
theorem new_ne {b a : Addr} {H : Hp} (g : Bag H b) (h : H a = none) : a ≠ b := (bag_new (o := .lst []) g h).1
theorem tok8 {n : P22.Tr} (h : Fine n) : ∀ u ∈ P22.toks n, (P22.Brk u ∨ P22.Name u) ∧ u.length ≤ 8 := fun u hu => by
  refine ⟨P22.toks_word h.ok u hu, ?_⟩
  have key : ∀ {t : P22.Tr}, (∀ w ∈ P22.leaves t, w.length ≤ 8) → ∀ u ∈ P22.toks t, u.length ≤ 8 := by
    intro t
    induction t with
    | leaf w =>
      intro hg u hu
      rw [List.mem_singleton.mp hu]
      exact hg w (List.mem_singleton.mpr rfl)
    | node l r il ir =>
      intro hg u hu
      rcases List.mem_cons.mp hu with rfl | hu
      · decide
      · rcases List.mem_append.mp hu with hu | hu
        · exact il (fun w hw => hg w (List.mem_append_left _ hw)) u hu
        · rcases List.mem_append.mp hu with hu | hu
          · exact ir (fun w hw => hg w (List.mem_append_right _ hw)) u hu
          · rw [List.mem_singleton.mp hu]
            decide
  exact key (fun w hw => name_len (h.good w hw).1) u hu
theorem Fine.str {n : P22.Tr} (h : Fine n) : ∀ u ∈ P22.leaves n, PyData.strOk (S u) = true := fun u hu => name_ok (h.good u hu).1
def NewAt (H : Hp) : Option P22.Tr → V → Prop
  | none => fun z => z = .non
  | some t => fun z => TrAt H t z
theorem done_k {u : List Nat} {n : P22.Tr} {y : V} {H : Hp} {QQ : VK} {E : XK} (ty : TrAt H n y) (k : ∀ H' z, Same H H' → NewAt H' (doneT u n) z → QQ z H') : spDone [.str (S u), y] H QQ E := by
  refine ⟨u, y, n, rfl, ty, ?_⟩
  cases e : doneT u n with
  | none =>
    rw [e] at k
    exact k H .non (Same.refl H) rfl
  | some t =>
    rw [e] at k
    exact fun H' v' s h => k H' v' s h
theorem tr_ne {H : Hp} {t : P22.Tr} {z : V} (h : TrAt H t z) : z ≠ .non := by
  intro e
  subst e
  cases t with
  | leaf w => cases (show V.non = V.str (S w) from h)
  | node l r =>
    obtain ⟨a, x, y, e, _⟩ := h
    cases e
theorem deed_tame {u : List Nat} {n : P22.Tr} (du : DeedW u) (fn : Fine n) : ∀ v ∈ u :: P22.toks n, v.length ≤ 10 ∧ PyData.strOk (S v) = true := fun v hv => by
  rcases List.mem_cons.mp hv with rfl | hv
  · rcases du with z | z | z
    · exact ⟨by rw [← S_len v, z]; decide +kernel, by rw [z]; decide +kernel⟩
    · exact ⟨by rw [← S_len v, z]; decide +kernel, by rw [z]; decide +kernel⟩
    · exact ⟨by rw [← S_len v, z]; decide +kernel, by rw [z]; decide +kernel⟩
  · exact tame_toks fn v hv
theorem TreeAt.text {C : Addr} {H : Hp} {x : Addr} {T : P22.Tr} (h : TreeAt C H x T) : ∃ dx fs, H x = some (.ins C dx fs) ∧ fs.lookup ("text" : Str) = some (spV T) := by
  obtain ⟨dx, lv, nd, d, lo, ab, h1, _⟩ := h
  exact ⟨dx, _, h1, rfl⟩
theorem allat_at {H : Hp} : ∀ {ts : List P22.Tr} {us : List V} {i : Nat} {z : V}, AllAt H ts us → us[i]? = some z → ∃ t, ts[i]? = some t ∧ TrAt H t z
  | [], us, i, z, h, e => by
    rw [show us = [] from h] at e
    cases e
  | t :: ts, us, i, z, ⟨w, r, e0, h1, h2⟩, e => by
    subst e0
    cases i with
    | zero =>
      cases e
      exact ⟨t, rfl, h1⟩
    | succ i => exact allat_at (i := i) h2 e
theorem turn_good {C CB CN : Addr} {H : Hp} {Q : VK} {E : XK} {x : Addr} {T n : P22.Tr} {o u : List Nat} (tx : TreeAt C H x T) (fT : Fine T) (lo : o.length ≤ 4000) (ho : P22.words o = u :: P22.toks n) (du : DeedW u) (fn : Fine n)
    (k : if n ∈ P22.nodes T then (match doneT u n with
        | none => Raised CB "why" (.str "the deed is not possible at this node") H E
        | some t => ∀ H' y, Same H H' → H y = none → TreeAt C H' y (P22.put n t T) → Q (.ref y) H') else Raised CN "name" (spV n) H E) : spTurn C CB CN [.ref x, .str (S o)] H Q E := by
  have tm := deed_tame du fn
  have l := fn.toks
  refine ⟨x, T, o, rfl, tx, fT, by omega, by rw [ho, List.length_cons]; omega, ?_, ?_, .inr ⟨u, n, ho, du, fn.good, fn.nd, k⟩⟩
  · rw [ho]
    exact fun v hv => ⟨by have := (tm v hv).1; omega, (tm v hv).2⟩
  · rw [ho]
    have h1 := Tame.sum tm
    rw [List.length_cons] at h1
    omega
theorem AllAt.go {b : Addr} {H H' : Hp} (g : Bag H b) (k : ∀ a o, a ≠ b → H a = some o → (∀ ps, o ≠ .tbl ps) → H' a = some o) : ∀ {ts : List P22.Tr} {us : List V}, AllAt H ts us → AllAt H' ts us
  | [], us, h => h
  | t :: ts, us, ⟨w, r, e, h1, h2⟩ => ⟨w, r, e, h1.go g k, AllAt.go g k h2⟩
theorem lc_all {K : PySem.W.Frag} {tt : L2.TT} {te : TE} {i v : Nat} {σ : L2.St} {H : Hp} {Q : VK} {x : V} {T : P22.Tr} (hx : σ[i]? = some (some x)) (tr : TrAt H T x) (d : depth T ≤ 24) (n : (P22.nodes T).length ≤ 10000)
    (hw : ∀ x, wipe ((wipe σ [v]).set v (some x)) [v] = wipe σ [v])
    (k : ∀ H1 l us, Same H H1 → H l = none → H1 l = some (.lst us) → AllAt H1 (P22.nodes T) us → ∀ D, H1 D = none → ∃ Pv : Nat → Hp → Prop, Pv 0 (upd H1 D (.lst [])) ∧ (∀ i H', i ≤ us.length → Pv i H' → SqL K H' l us) ∧
      (∀ i x H', us[i]? = some x → Pv i H' → tt ((wipe σ [v]).set v (some x)) H' fun b H3 => if b = true then te ((wipe σ [v]).set v (some x)) H3 fun y H4 => ∃ acc, H4 D = some (.lst acc) ∧ acc.length < sizeLine ∧ Pv (i + 1) (upd H4 D (.lst (acc ++ [y]))) else Pv (i + 1) H3) ∧
      ∀ H', Pv us.length H' → Q (.ref D) H') : tLc (iList K (tCall (spAll 24) [] C8.E0 (tCons (tVar i) tNil))) (gName v) tt te [v] σ H Q := by
  unfold tLc iList tCall tCons tVar tNil
  refine ⟨x, hx, ?_⟩
  dsimp only
  show spAll 24 [x] _ _ _
  refine ⟨x, T, rfl, tr, d, n, fun H1 l us s nl hl all => ?_⟩
  exact Lay.lc_list (K := K) (v := v) (σ := σ) (tt := tt) (te := te) (Q := Q) (tl := fun _ _ R => R (.ref l) H1) (H := H1) (fun R h => h) (SqL.of hl) hw (k H1 l us s nl hl all)
theorem z_deed {v : V} (h : v ∈ ([.str (Str.ofString "swap"), .str (Str.ofString "right"), .str (Str.ofString "left")] : List V)) : ∃ u, v = .str (S u) ∧ DeedW u ∧ P22.Name u := by
  simp only [List.mem_cons, List.not_mem_nil, or_false] at h
  rcases h with rfl | rfl | rfl
  · exact ⟨cW "swap", congrArg V.str (S_tl _).symm, .inl (S_tl _), nm_swap⟩
  · exact ⟨cW "right", congrArg V.str (S_tl _).symm, .inr (.inr (S_tl _)), nm_right⟩
  · exact ⟨cW "left", congrArg V.str (S_tl _).symm, .inr (.inl (S_tl _)), nm_left⟩
theorem act_lt {k : Nat} {n m : P22.Tr} (h : P22.act k n = some m) : k = 0 ∨ k = 1 ∨ k = 2 := by
  unfold P22.act at h
  split at h
  · exact .inl rfl
  · exact .inr (.inl rfl)
  · exact .inr (.inr rfl)
  · cases h
theorem kw_deed {k : Nat} {n m : P22.Tr} (h : P22.act k n = some m) : DeedW (P22.kw k) := by
  obtain ⟨e0, e1, e2⟩ := kw_txt
  rcases act_lt h with rfl | rfl | rfl
  · exact .inl e0
  · exact .inr (.inr e1)
  · exact .inr (.inl e2)
theorem strOk_app {a b : List Nat} (h : PyData.strOk (S a) = true) (k : PyData.strOk (S b) = true) : PyData.strOk (S (a ++ b)) = true := by
  unfold PyData.strOk at *
  rw [Array.all_eq_true'] at *
  intro c hc
  have hc : c ∈ a ++ b := by simpa using hc
  rcases List.mem_append.mp hc with z | z
  · exact h c (by simpa using z)
  · exact k c (by simpa using z)
theorem strOk_sp : PyData.strOk (S [32]) = true ∧ PyData.strOk (S [40]) = true ∧ PyData.strOk (S [41]) = true := by decide +kernel
theorem spell_ok : ∀ {t : P22.Tr}, (∀ u ∈ P22.leaves t, PyData.strOk (S u) = true) → PyData.strOk (S (P22.spell t)) = true
  | .leaf w, h => h w (List.mem_singleton.mpr rfl)
  | .node l r, h => by
    have h1 := spell_ok (t := l) fun u hu => h u (List.mem_append_left _ hu)
    have h2 := spell_ok (t := r) fun u hu => h u (List.mem_append_right _ hu)
    obtain ⟨s1, s2, s3⟩ := strOk_sp
    have := strOk_app (strOk_app (strOk_app (strOk_app s2 h1) s1) h2) s3
    have e : P22.spell (.node l r) = [40] ++ P22.spell l ++ [32] ++ P22.spell r ++ [41] := by simp [P22.spell]
    rw [e]
    exact this
theorem dtext_ok {k : Nat} {n m : P22.Tr} (h : P22.act k n = some m) (f : Fine n) : PyData.strOk (S (P22.dtext (k, n))) = true := by
  have h1 := (deed_tame (kw_deed h) f _ List.mem_cons_self).2
  exact strOk_app h1 (strOk_app (a := [32]) strOk_sp.1 (spell_ok f.str))
/-- what deeds there are in a walk -/
theorem walk_fine : ∀ {T U : P22.Tr} {ds : List (Nat × P22.Tr)}, P22.Walks T ds U → Fine T → Fine U ∧ ∀ d ∈ ds, Fine d.2 ∧ ∃ m, P22.act d.1 d.2 = some m
  | _, _, _, .nil, f => ⟨f, fun d hd => by cases hd⟩
  | _, _, _, .cons h1 h2 h3, f => by
    have ih := walk_fine h3 (f.put (act_done h2))
    refine ⟨ih.1, fun d hd => ?_⟩
    rcases List.mem_cons.mp hd with rfl | hd
    · exact ⟨f.sub h1, _, h2⟩
    · exact ih.2 d hd
theorem dV_str (ds : List (Nat × P22.Tr)) : ds.map dV = wV (ds.map P22.dtext) := by
  rw [wV, List.map_map]
  rfl
theorem walk_take : ∀ {T U : P22.Tr} {ds : List (Nat × P22.Tr)} (n : Nat), P22.Walks T ds U → ∃ V, P22.Walks T (ds.take n) V
  | T, _, _, 0, _ => ⟨T, by rw [List.take_zero]; exact .nil⟩
  | T, _, _, n + 1, .nil => ⟨T, .nil⟩
  | _, _, _, n + 1, .cons h1 h2 h3 => by
    obtain ⟨V, h⟩ := walk_take n h3
    exact ⟨V, .cons h1 h2 h⟩
end W22

set_option Elab.async false
set_option linter.all false
set_option maxRecDepth 100000
set_option maxHeartbeats 4000000
/-! BU22: _law_bad of an Unlike -/
namespace W22
open PySem PySem.Spec PyProof.Rows L2 Lay
open SX (S S_len S_cat S_tl)
open C8 (Cal pe_c pe_gc fnScope_by E0)
section
variable {P : Program} {w : World} {K : PySem.W.Frag} {mg : Str → Option Value} {base : Heap} {f : Addr} {fd : FuncData}
def spBadU : Sp := fun vs H Q _ => ∃ l, vs = [.str "Unlike", .ref l] ∧ H l = some (.lst [.str "things"]) ∧ ∀ H' a, Same H H' → H a = none → H' a = some (.lst [.str "Unlike", .str "things", .str "ValueError"]) → Q (.ref a) H'
theorem ok_badU (m : Mg K mg) (F : Fn K "_law_bad" 50 f fd) (g : mg "_law_bad" = some (.ref f)) : Cal P w K mg base 1 "_law_bad" spBadU [] := by
  have sc := sc46
  refine calD F g sc (fun _ _ _ _ _ _ us hl => match us, hl with | [_, _], _ => rfl) ?_ fun cdv A outer s H vs Q E hr h => ?_
  · rintro vs H Q E ⟨a, rfl, _⟩
    rfl
  · obtain ⟨l, rfl, hl, q⟩ := h
    refine ⟨_, (pss_cons (ps_if (pt_cmpR op_in_seq (pv 0) (pe_tup (pa_cons pe_str (pa_cons pe_str (pa_cons pe_str (pa_cons pe_str pa_nil))))) rfl)
        (pss_one (ps_ret (pe_op op_cat (pe_op op_cat (pe_lst (pa_cons (pv 0) pa_nil)) (pv 1)) (pe_lst (pa_cons pe_str pa_nil)))))
        pss_nil)
      (pss_one (ps_ret (pe_op op_cat (pe_op op_cat (pe_lst (pa_cons (pv 0) pa_nil)) (pv 1)) (pe_lst (pa_cons (pe_tup (pa_cons pe_str pa_nil)) (pa_cons pe_str pa_nil))))))), ?_⟩
    simp only [L2.start, cxOf, tRet, tAndV, tOrV, tNotV, tCB, tCons, tNil, tVar, tC, tOp, tUn, tTest, tB, tIf, tIfS, tSeq, tAsg, tAnd, tOr, tNot, gName, tNext, tCall, tChain, rI, rI0, rEq, rNe, rGcd, rU, tM1, tM0, tSl, tPart, tNoPart, gTup, gCons, gNil, gSub, tTup, tLst, tPar, L2.rI, List.map_cons, List.map_nil, List.length_cons, List.length_nil, List.cons_append, List.nil_append, List.append_nil, List.getElem?_cons_zero, List.getElem?_cons_succ, List.set_cons_zero, List.set_cons_succ, Option.some.injEq, exists_eq_left, exists_eq_left', exists_eq_right, exists_and_left, exists_and_right, List.cons.injEq, and_true, true_and, V.int.injEq, V.str.injEq, V.bl.injEq, V.ref.injEq, List.replicate, Nat.reduceAdd, Nat.reduceSub, reduceCtorEq, false_and, and_false, if_true, if_false, Bool.false_eq_true, Bool.not_true, Bool.not_false, decide_eq_true_eq, exists_false, or_false, false_or]
    refine ⟨small (by decide), fun p hp => ⟨_, _, rfl, .inr (sqT_of upd_same), rfl, by decide, true, ?_, ?_⟩⟩
    · decide +kernel
    rw [if_pos rfl]
    refine ⟨small (by decide), fun a1 h1 => ?_⟩
    have sp := same_new (o := .tup [V.str (Str.ofString "BadNumber"), V.str (Str.ofString "Unlike"), V.str (Str.ofString "TooMany"), V.str (Str.ofString "NotOne")]) hp
    have s1 := sp.trans (same_new (o := .lst [V.str (Str.ofString "Unlike")]) h1)
    have hl1 := s1 _ _ hl
    refine ⟨a1, l, _, _, rfl, rfl, upd_same, hl1, by simp [sizeLine_eq], fun a2 h2 => ⟨small (by decide), fun a4 h4 => ?_⟩⟩
    have s2 := s1.trans (same_new (o := .lst ([V.str (Str.ofString "Unlike")] ++ [V.str (Str.ofString "things")])) h2)
    have s4 := s2.trans (same_new (o := .lst [V.str (Str.ofString "ValueError")]) h4)
    refine ⟨a2, a4, _, _, rfl, rfl, same_new h4 _ _ upd_same, upd_same, by simp [sizeLine_eq], fun a5 h5 => ?_⟩
    exact q _ a5 (s4.trans (same_new h5)) (s4.fresh h5) upd_same
end
end W22

set_option Elab.async false
set_option linter.all false
set_option maxRecDepth 100000
set_option maxHeartbeats 4000000
/-! WL22: _law_walked -/
namespace W22
open PySem PySem.Spec PyProof.Rows L2 Lay
open SX (S S_len S_cat S_tl)
open C8 (Cal pe_c pe_gc fnScope_by E0)
theorem kw_len (k : Nat) : (P22.kw k).length ≤ 5 := by
  unfold P22.kw
  split <;> decide
theorem fold_len : ∀ (r : List P22.Wd) (x : List Nat), (r.foldl (fun x u => x ++ List.replicate 1 32 ++ u) x).length = x.length + (r.map List.length).sum + r.length
  | [], x => by simp
  | u :: r, x => by
    rw [List.foldl_cons, fold_len r]
    simp only [List.length_append, List.length_replicate, List.map_cons, List.sum_cons, List.length_cons]
    omega
theorem joined_len : ∀ ws : List P22.Wd, (P22.joined ws).length ≤ (ws.map List.length).sum + ws.length
  | [] => Nat.zero_le _
  | w :: r => by
    unfold P22.joined
    rw [fold_len]
    simp only [List.map_cons, List.sum_cons, List.length_cons]
    omega
theorem lc_texts {K : PySem.W.Frag} {tt : L2.TT} {te : TE} {i v : Nat} {σ : L2.St} {H : Hp} {Q : VK} {x : V} {T : P22.Tr} (hx : σ[i]? = some (some x)) (tr : TrAt H T x) (d : depth T ≤ 24) (n : (P22.nodes T).length ≤ 10000) (ls : (P22.spell T).length ≤ 100000)
    (hw : ∀ x, wipe ((wipe σ [v]).set v (some x)) [v] = wipe σ [v])
    (k : ∀ H1 l us, Same H H1 → H l = none → H1 l = some (.lst us) → TxtAt H1 (P22.nodes T) us → ∀ D, H1 D = none → ∃ Pv : Nat → Hp → Prop, Pv 0 (upd H1 D (.lst [])) ∧ (∀ i H', i ≤ us.length → Pv i H' → SqL K H' l us) ∧
      (∀ i x H', us[i]? = some x → Pv i H' → tt ((wipe σ [v]).set v (some x)) H' fun b H3 => if b = true then te ((wipe σ [v]).set v (some x)) H3 fun y H4 => ∃ acc, H4 D = some (.lst acc) ∧ acc.length < sizeLine ∧ Pv (i + 1) (upd H4 D (.lst (acc ++ [y]))) else Pv (i + 1) H3) ∧
      ∀ H', Pv us.length H' → Q (.ref D) H') : tLc (iList K (tCall (spTexts 24) [] C8.E0 (tCons (tVar i) tNil))) (gName v) tt te [v] σ H Q := by
  unfold tLc iList tCall tCons tVar tNil
  refine ⟨x, hx, ?_⟩
  dsimp only
  show spTexts 24 [x] _ _ _
  refine ⟨x, T, rfl, tr, d, n, ls, fun H1 l us s nl hl all => ?_⟩
  exact Lay.lc_list (K := K) (v := v) (σ := σ) (tt := tt) (te := te) (Q := Q) (tl := fun _ _ R => R (.ref l) H1) (H := H1) (fun R h => h) (SqL.of hl) hw (k H1 l us s nl hl all)
section
variable {P : Program} {w : World} {K : PySem.W.Frag} {mg : Str → Option Value} {base : Heap} {f : Addr} {fd : FuncData}
theorem sd63 : FnScope ["tree", "told", "deed", "words", "text", "found", "pair", "new"] ["tree", "told"] (defScope (top 63)) := fnScope_by (by decide +kernel)
def spWalked : Sp := fun vs H Q _ => ∃ v l T U ds, vs = [v, .ref l] ∧ TrAt H T v ∧ H l = some (.lst (ds.map dV)) ∧ Fine T ∧ P22.Walks T ds U ∧ ∀ H' z, Same H H' → TrAt H' U z → Q z H'
theorem ok_walked (m : Mg K mg) (c__law_tokens : Cal P w K mg base 1 "_law_tokens" spTW []) (c__law_tidy : Cal P w K mg base 2 "_law_tidy" spTidy []) (c__law_texts : Cal P w K mg base 25 "_law_texts" (spTexts 24) []) (c__law_done : Cal P w K mg base 1 "_law_done" spDone []) (c__law_put : Cal P w K mg base 25 "_law_put" (spPut 24) [])
    (F : Fn K "_law_walked" 63 f fd) (g : mg "_law_walked" = some (.ref f)) : Cal P w K mg base 26 "_law_walked" spWalked [] := by
  have sc := sd63
  refine calD F g sc (fun _ _ _ _ _ _ us hl => match us, hl with | [_, _], _ => rfl) ?_ fun cdv A outer s H vs Q E hr h => ?_
  · rintro vs H Q E ⟨v, l, T, U, ds, rfl, _⟩
    rfl
  · obtain ⟨v, l, T, U, ds, rfl, tr, hl, fT, wk, q⟩ := h
    refine ⟨_, (pss_cons (ps_for pown rfl (pi_list (pv 1)) (pg_name (i := 2) sc.nd rfl (.inl rfl))
        (pss_cons (ps_if (pt_not (pt_val (pe_callB call_isB (by rfl) m.isinstance_ boot_isinstance (pa_cons (pv 2) (pa_cons (pe_bltn (v := .ty "str") (by rfl) m.str_ boot_str rfl) pa_nil)))))
          (pss_one (ps_ret pe_non))
          pss_nil)
        (pss_cons (ps_set (i := 3) sc.nd rfl (.inl rfl) (pe_c c__law_tokens hr (by omega) (by rfl) (pa_cons (pv 2) pa_nil)))
        (pss_cons (ps_if ((pw_or (pt_cmpR op_lt (pe_callB call_len (by rfl) m.len_ boot_len (pa_cons (pv 3) pa_nil)) pe_int (nomark _)) (pw_or1 (pt_cmpR op_notIn_seq (pe_ix ix_list (pv 3) pe_int (fun _ _ => rfl)) (pe_tup (pa_cons pe_str (pa_cons pe_str (pa_cons pe_str pa_nil)))) rfl)))).pt
          (pss_one (ps_ret pe_non))
          pss_nil)
        (pss_cons (ps_set (i := 4) sc.nd rfl (.inr rfl) (pe_c c__law_tidy hr (by omega) (by rfl) (pa_cons (pe_join pe_str (pe_slice sl_list (pv 3) (po_some pe_int) po_none)) pa_nil)))
        (pss_cons (ps_setLc (i := 5) (own := [("pair", 6)]) (g := gName 6) (by rfl) sc.nd rfl rfl (sw_true rfl rfl rfl (by decide +kernel)) (pi_list (pe_c c__law_texts hr (by omega) (by rfl) (pa_cons (pv 0) pa_nil))) (blkOk_by (own := [("pair", 6)]) (N := ["tree", "told", "deed", "words", "text", "found", "pair", "new"]) (sc := defScope (top 63)) (by decide +kernel)) (fun _ _ _ _ _ => pg_name (i := 6) sc.nd rfl (.inl rfl)) (fun _ _ _ _ _ => pts_one (pt_cmpR op_eq (pe_ix (show IxR _ (rIxT K) from ix_tup) (pv 6) pe_int (fun _ _ => rfl)) (pv 4) (nomark _))) (fun _ _ _ _ _ => pe_ix (show IxR _ (rIxT K) from ix_tup) (pv 6) pe_int (fun _ _ => rfl)))
        (pss_cons (ps_if (pt_cmpR op_ne (pe_callB call_len (by rfl) m.len_ boot_len (pa_cons (pv 5) pa_nil)) pe_int (nomark _))
          (pss_one (ps_ret pe_non))
          pss_nil)
        (pss_cons (ps_set (i := 7) sc.nd rfl (.inl rfl) (pe_c c__law_done hr (by omega) (by rfl) (pa_cons (pe_ix ix_list (pv 3) pe_int (fun _ _ => rfl)) (pa_cons (pe_ix ix_list (pv 5) pe_int (fun _ _ => rfl)) pa_nil))))
        (pss_cons (ps_if (pt_cmpR op_isN (pv 7) pe_non (nomark _))
          (pss_one (ps_ret pe_non))
          pss_nil)
        (pss_one (ps_set (i := 0) sc.nd rfl (.inl rfl) (pe_c c__law_put hr (by omega) (by rfl) (pa_cons (pv 0) (pa_cons (pe_ix ix_list (pv 5) pe_int (fun _ _ => rfl)) (pa_cons (pv 7) pa_nil)))))))))))))))
      (pss_one (ps_ret (pv 0)))), ?_⟩
    refine seq_cut (fun σ' H' => ∃ z y2 y3 y4 y5 y6 y7, σ' = [some z, some (.ref l), y2, y3, y4, y5, y6, y7] ∧ Same H H' ∧ TrAt H' U z) (fun D' hrt hn => ?_) ?_
    · refine for_list_at (K := K) (l := l) (xs := ds.map dV) (fun R k => ⟨_, rfl, k⟩) (SqL.of hl) ⟨fun i σ' H' => ∃ z Ti y2 y3 y4 y5 y6 y7, σ' = [some z, some (.ref l), y2, y3, y4, y5, y6, y7] ∧ Same H H' ∧ TrAt H' Ti z ∧ Fine Ti ∧ P22.Walks Ti (ds.drop i) U, ⟨v, T, none, none, none, none, none, none, rfl, Same.refl H, tr, fT, wk⟩, fun i σ' H' hi ⟨z, Ti, y2, y3, y4, y5, y6, y7, e, s1, _⟩ => SqL.of (s1 _ _ hl), ?_, ?_⟩
      · rintro i xx σ' H1 hx ⟨z, Ti, y2, y3, y4, y5, y6, y7, rfl, s1, tz, fi, wi⟩
        rw [List.getElem?_map] at hx
        obtain ⟨⟨k, n⟩, hd, rfl⟩ := Option.map_eq_some_iff.mp hx
        have hdr : ds.drop i = (k, n) :: ds.drop (i + 1) := by
          obtain ⟨li, e⟩ := List.getElem?_eq_some_iff.mp hd
          rw [List.drop_eq_getElem_cons li, e]
        rw [hdr] at wi
        cases wi with
        | cons hn1 hac hw =>
          rename_i m'
          have fn := fi.sub hn1
          have wds : P22.words (P22.dtext (k, n)) = P22.kw k :: P22.toks n := dtext_words fn.ok
          have lk := kw_len k
          have ln := fn.len
          have tn := fn.toks
          show tSeq _ _ _ [some z, some (.ref l), some (dV (k, n)), y3, y4, y5, y6, y7] H1
          refine seq_cut (fun σ' H' => σ' = [some z, some (.ref l), some (dV (k, n)), y3, y4, y5, y6, y7] ∧ H' = H1) (fun D2 hrt2 hn2 => ?_) ?_
          · simp only [L2.start, cxOf, tRet, tAndV, tOrV, tNotV, tCB, tCons, tNil, tVar, tC, tOp, tUn, tTest, tB, tIf, tIfS, tSeq, tAsg, tAnd, tOr, tNot, gName, tNext, tCall, tChain, rI, rI0, rEq, rNe, rGcd, rU, tM1, tM0, tSl, tPart, tNoPart, gTup, gCons, gNil, gSub, tTup, tLst, tPar, L2.rI, List.map_cons, List.map_nil, List.length_cons, List.length_nil, List.cons_append, List.nil_append, List.append_nil, List.getElem?_cons_zero, List.getElem?_cons_succ, List.set_cons_zero, List.set_cons_succ, Option.some.injEq, exists_eq_left, exists_eq_left', exists_eq_right, exists_and_left, exists_and_right, List.cons.injEq, and_true, true_and, V.int.injEq, V.str.injEq, V.bl.injEq, V.ref.injEq, List.replicate, Nat.reduceAdd, Nat.reduceSub, reduceCtorEq, false_and, and_false, if_true, if_false, Bool.false_eq_true, Bool.not_true, Bool.not_false, decide_eq_true_eq, exists_false, or_false, false_or]
            exact isi_nt (T := "str") kd_str (hn2 _ _ ⟨rfl, rfl⟩)
          rintro σ' H' ⟨rfl, rfl⟩
          refine seq_cut (fun σ' H2 => ∃ t, σ' = [some z, some (.ref l), some (dV (k, n)), some (.ref t), y4, y5, y6, y7] ∧ Same H' H2 ∧ H2 t = some (wordsV (P22.kw k :: P22.toks n))) (fun D2 hrt2 hn2 => ?_) ?_
          · simp only [L2.start, cxOf, tRet, tAndV, tOrV, tNotV, tCB, tCons, tNil, tVar, tC, tOp, tUn, tTest, tB, tIf, tIfS, tSeq, tAsg, tAnd, tOr, tNot, gName, tNext, tCall, tChain, rI, rI0, rEq, rNe, rGcd, rU, tM1, tM0, tSl, tPart, tNoPart, gTup, gCons, gNil, gSub, tTup, tLst, tPar, L2.rI, List.map_cons, List.map_nil, List.length_cons, List.length_nil, List.cons_append, List.nil_append, List.append_nil, List.getElem?_cons_zero, List.getElem?_cons_succ, List.set_cons_zero, List.set_cons_succ, Option.some.injEq, exists_eq_left, exists_eq_left', exists_eq_right, exists_and_left, exists_and_right, List.cons.injEq, and_true, true_and, V.int.injEq, V.str.injEq, V.bl.injEq, V.ref.injEq, List.replicate, Nat.reduceAdd, Nat.reduceSub, reduceCtorEq, false_and, and_false, if_true, if_false, Bool.false_eq_true, Bool.not_true, Bool.not_false, decide_eq_true_eq, exists_false, or_false, false_or]
            refine ⟨P22.dtext (k, n), rfl, ?_, fun H2 t s2 nt ht => hn2 _ _ ⟨t, rfl, s2, wds ▸ ht⟩⟩
            unfold P22.dtext
            rw [List.length_append, List.length_cons]
            dsimp only
            omega
          rintro σ' H2 ⟨t, rfl, s2, ht⟩
          have s02 := s1.trans s2
          have tz2 := tz.same s2
          refine seq_cut (fun σ' H' => σ' = [some z, some (.ref l), some (dV (k, n)), some (.ref t), y4, y5, y6, y7] ∧ Same H2 H') (fun D2 hrt2 hn2 => ?_) ?_
          · simp only [L2.start, cxOf, tRet, tAndV, tOrV, tNotV, tCB, tCons, tNil, tVar, tC, tOp, tUn, tTest, tB, tIf, tIfS, tSeq, tAsg, tAnd, tOr, tNot, gName, tNext, tCall, tChain, rI, rI0, rEq, rNe, rGcd, rU, tM1, tM0, tSl, tPart, tNoPart, gTup, gCons, gNil, gSub, tTup, tLst, tPar, L2.rI, List.map_cons, List.map_nil, List.length_cons, List.length_nil, List.cons_append, List.nil_append, List.append_nil, List.getElem?_cons_zero, List.getElem?_cons_succ, List.set_cons_zero, List.set_cons_succ, Option.some.injEq, exists_eq_left, exists_eq_left', exists_eq_right, exists_and_left, exists_and_right, List.cons.injEq, and_true, true_and, V.int.injEq, V.str.injEq, V.bl.injEq, V.ref.injEq, List.replicate, Nat.reduceAdd, Nat.reduceSub, reduceCtorEq, false_and, and_false, if_true, if_false, Bool.false_eq_true, Bool.not_true, Bool.not_false, decide_eq_true_eq, exists_false, or_false, false_or]
            refine ⟨_, len_L (SqL.of ht), ?_⟩
            rw [if_neg (by
              have : 0 < (P22.toks n).length := by cases n <;> simp [P22.toks]
              simp only [List.length_map, List.length_cons]
              omega)]
            refine ixL (SqL.of ht) 0 rfl ⟨small (by decide), fun p hp => ⟨_, _, rfl, .inr (sqT_of upd_same), rfl, by decide, ?_⟩⟩
            rw [if_pos rfl]
            have e : inV (V.str (S (P22.kw k))) ([("swap" : Str), ("right" : Str), ("left" : Str)].map V.str) = true := by
              rw [inV_S, decide_eq_true_eq]
              rcases act_lt hac with rfl | rfl | rfl
              · decide +kernel
              · decide +kernel
              · decide +kernel
            have e : inV (V.str (S (P22.kw k))) [V.str (Str.ofString "swap"), V.str (Str.ofString "right"), V.str (Str.ofString "left")] = true := e
            rw [e]
            exact ⟨_, rfl, by rw [if_neg (by decide)]; exact hn2 _ _ ⟨rfl, same_new hp⟩⟩
          rintro σ' H3 ⟨rfl, s3⟩
          have s03 := s02.trans s3
          have tz3 := tz2.same s3
          have ht3 := s3 _ _ ht
          refine seq_cut (fun σ' H' => σ' = [some z, some (.ref l), some (dV (k, n)), some (.ref t), some (spV n), y5, y6, y7] ∧ Same H3 H') (fun D2 hrt2 hn2 => ?_) ?_
          · simp only [L2.start, cxOf, tRet, tAndV, tOrV, tNotV, tCB, tCons, tNil, tVar, tC, tOp, tUn, tTest, tB, tIf, tIfS, tSeq, tAsg, tAnd, tOr, tNot, gName, tNext, tCall, tChain, rI, rI0, rEq, rNe, rGcd, rU, tM1, tM0, tSl, tPart, tNoPart, gTup, gCons, gNil, gSub, tTup, tLst, tPar, L2.rI, List.map_cons, List.map_nil, List.length_cons, List.length_nil, List.cons_append, List.nil_append, List.append_nil, List.getElem?_cons_zero, List.getElem?_cons_succ, List.set_cons_zero, List.set_cons_succ, Option.some.injEq, exists_eq_left, exists_eq_left', exists_eq_right, exists_and_left, exists_and_right, List.cons.injEq, and_true, true_and, V.int.injEq, V.str.injEq, V.bl.injEq, V.ref.injEq, List.replicate, Nat.reduceAdd, Nat.reduceSub, reduceCtorEq, false_and, and_false, if_true, if_false, Bool.false_eq_true, Bool.not_true, Bool.not_false, decide_eq_true_eq, exists_false, or_false, false_or]
            have e32 : Str.ofString " " = S [32] := by decide +kernel
            have ec : cutV (List.map (fun w => V.str (S w)) (P22.kw k :: P22.toks n)) (some 1) none = wV (P22.toks n) := cut_from (k := 1) (by simp)
            refine ⟨⟨_, rfl⟩, t, _, rfl, SqL.of ht3, fun q1 hq1 => ?_⟩
            rw [ec]
            have tm := tame_toks fn
            have sm := Tame.sum tm
            refine ⟨q1, rfl, (P22.toks n).map S, .inl (SqL.of (by rw [upd_same, List.map_map]; rfl)), ?_, ?_⟩
            · have e : ((P22.toks n).map S).map (fun x => x.length) = (P22.toks n).map List.length := by
                rw [List.map_map]
                exact List.map_congr_left fun u _ => S_len u
              have e2 : (Str.ofString " ").length = 1 := by decide +kernel
              rw [e, e2, List.length_map]
              omega
            · rw [e32, SX.join_S, P22.joinL_joined]
              have wj := P22.words_joined (P22.toks_word fn.ok)
              have jl := joined_len (P22.toks n)
              refine ⟨P22.joined (P22.toks n), rfl, by omega, by rw [wj]; omega, by rw [wj]; exact fun u hu => (tm u hu).1, fun H' s' => ?_⟩
              rw [wj, P22.text_toks fn.ok]
              exact hn2 _ _ ⟨rfl, (same_new hq1).trans s'⟩
          rintro σ' H4 ⟨rfl, s4⟩
          have s04 := s03.trans s4
          have tz4 := tz3.same s4
          have dp := fi.dep
          have nz := fi.nodes
          have lz := fi.len
          refine seq_cut (fun σ' H' => ∃ fl y, σ' = [some z, some (.ref l), some (dV (k, n)), some (.ref t), some (spV n), some (.ref fl), y6, y7] ∧ Same H4 H' ∧ H' fl = some (.lst [y]) ∧ TrAt H' n y) (fun D2 hrt2 hn2 => ?_) ?_
          · refine lc_texts (i := 0) (v := 6) rfl tz4 (by omega) (by omega) (by omega) (fun x => rfl) fun H5 l5 us s5 nl5 hl5 all D hD => ⟨fun i H' => Same H5 H' ∧ ∃ ys, H' D = some (.lst ys) ∧ ys.length ≤ i ∧ AllAt H5 (((P22.nodes Ti).take i).filter fun u => decide (u = n)) ys, ⟨same_new hD, [], upd_same, Nat.le_refl _, rfl⟩, fun i H' hi h => SqL.of (h.1 _ _ hl5), fun i pv H' hz ⟨sH, ys, hDD, ly, ay⟩ => ?_, fun H' ⟨sH, ys, hDD, ly, ay⟩ => ?_⟩
            · obtain ⟨ti, hti, c, y, rfl, hc, ty⟩ := paired_at all hz
              have li : i < (P22.nodes Ti).length := (List.getElem?_eq_some_iff.mp hti).1
              have fti := fi.sub (List.mem_of_getElem? hti)
              have szl := sizeLine_eq
              have tk : (P22.nodes Ti).take (i + 1) = (P22.nodes Ti).take i ++ [ti] := by rw [List.take_succ, hti]; rfl
              unfold tTest tOp tVar tC
              refine ⟨_, rfl, ixT (sH _ _ hc) 1 rfl ⟨_, rfl, rfl, _, rfl, ?_⟩⟩
              dsimp only
              by_cases e : ti = n
              · rw [if_pos (by rw [e]; simp [spV])]
                refine ⟨_, rfl, ixT (sH _ _ hc) 0 rfl ⟨ys, hDD, by omega, fun b u e => ?_, ys ++ [y], upd_same, by rw [List.length_append]; simp; omega, ?_⟩⟩
                · rw [upd_ne (ne_of_none e hD)]
                  exact sH _ _ e
                · rw [tk, List.filter_append, e]
                  exact AllAt.append ay (by
                    rw [List.filter_cons_of_pos (by simp)]
                    exact ⟨y, [], rfl, e ▸ ty, rfl⟩)
              · rw [if_neg (by
                  rw [decide_eq_true_eq]
                  exact fun z => e (P22.spell_inj fti.ok fn.ok (SX.S_inj (V.str.inj z))))]
                refine ⟨sH, ys, hDD, by omega, ?_⟩
                rw [tk, List.filter_append, show [ti].filter (fun u => decide (u = n)) = [] by simp [e], List.append_nil]
                exact ay
            · have lus : us.length = (P22.nodes Ti).length := all.length.symm
              rw [lus, List.take_length, P22.only_node fi.nd hn1] at ay
              obtain ⟨y, r, e, ty, er⟩ := ay
              obtain rfl : r = [] := er
              subst e
              exact hn2 _ _ ⟨D, y, rfl, s5.trans sH, hDD, ty.same sH⟩
          rintro σ' H5 ⟨fl, y, rfl, s5, hfl, ty⟩
          have s05 := s04.trans s5
          have tz5 := tz4.same s5
          have ht5 := s5 _ _ (s4 _ _ ht3)
          simp only [L2.start, cxOf, tRet, tAndV, tOrV, tNotV, tCB, tCons, tNil, tVar, tC, tOp, tUn, tTest, tB, tIf, tIfS, tSeq, tAsg, tAnd, tOr, tNot, gName, tNext, tCall, tChain, rI, rI0, rEq, rNe, rGcd, rU, tM1, tM0, tSl, tPart, tNoPart, gTup, gCons, gNil, gSub, tTup, tLst, tPar, L2.rI, List.map_cons, List.map_nil, List.length_cons, List.length_nil, List.cons_append, List.nil_append, List.append_nil, List.getElem?_cons_zero, List.getElem?_cons_succ, List.set_cons_zero, List.set_cons_succ, Option.some.injEq, exists_eq_left, exists_eq_left', exists_eq_right, exists_and_left, exists_and_right, List.cons.injEq, and_true, true_and, V.int.injEq, V.str.injEq, V.bl.injEq, V.ref.injEq, List.replicate, Nat.reduceAdd, Nat.reduceSub, reduceCtorEq, false_and, and_false, if_true, if_false, Bool.false_eq_true, Bool.not_true, Bool.not_false, decide_eq_true_eq, exists_false, or_false, false_or]
          refine ⟨1, len_L (SqL.of hfl), rfl, ?_⟩
          rw [if_neg (by decide)]
          refine ixL (SqL.of ht5) 0 rfl (ixL (SqL.of hfl) 0 rfl ⟨P22.kw k, y, n, rfl, ty, ?_⟩)
          rw [act_done hac]
          intro H6 v6 s6 t6
          rw [if_neg (tr_ne t6)]
          have pe := fi.put (act_done hac)
          have dn := fn.dep
          refine ixL (SqL.of (s6 _ _ hfl)) 0 rfl ⟨z, y, v6, Ti, n, _, rfl, tz5.same s6, ty.same s6, t6, by omega, by omega, by omega, fi.str, fn.str, fun H7 v7 s7 t7 => ?_⟩
          exact ⟨v7, ⟨rfl, _, rfl⟩, s05.trans (s6.trans s7), _, t7, pe, hw⟩
      · rintro σ' H1 ⟨z, Ti, y2, y3, y4, y5, y6, y7, rfl, s1, tz, fi, wi⟩
        rw [List.length_map, List.drop_length] at wi
        cases wi
        exact hn _ _ ⟨z, _, _, _, _, _, _, rfl, s1, tz⟩
    rintro σ' H1 ⟨z, y2, y3, y4, y5, y6, y7, rfl, s1, tz⟩
    simp only [L2.start, cxOf, tRet, tAndV, tOrV, tNotV, tCB, tCons, tNil, tVar, tC, tOp, tUn, tTest, tB, tIf, tIfS, tSeq, tAsg, tAnd, tOr, tNot, gName, tNext, tCall, tChain, rI, rI0, rEq, rNe, rGcd, rU, tM1, tM0, tSl, tPart, tNoPart, gTup, gCons, gNil, gSub, tTup, tLst, tPar, L2.rI, List.map_cons, List.map_nil, List.length_cons, List.length_nil, List.cons_append, List.nil_append, List.append_nil, List.getElem?_cons_zero, List.getElem?_cons_succ, List.set_cons_zero, List.set_cons_succ, Option.some.injEq, exists_eq_left, exists_eq_left', exists_eq_right, exists_and_left, exists_and_right, List.cons.injEq, and_true, true_and, V.int.injEq, V.str.injEq, V.bl.injEq, V.ref.injEq, List.replicate, Nat.reduceAdd, Nat.reduceSub, reduceCtorEq, false_and, and_false, if_true, if_false, Bool.false_eq_true, Bool.not_true, Bool.not_false, decide_eq_true_eq, exists_false, or_false, false_or]
    exact q H1 z s1 tz
end
end W22

set_option Elab.async false
set_option linter.all false
set_option maxRecDepth 100000
set_option maxHeartbeats 4000000
/-! LE22: _law_led -/
namespace W22
open PySem PySem.Spec PyProof.Rows L2 Lay
open SX (S S_len S_cat S_tl)
open C8 (Cal Mak pe_c pe_mk pe_gc fnScope_by E0)
/-- two nested names compared -/
theorem eq_trees {K : PySem.W.Frag} {H : Hp} {a b : V} {T U : P22.Tr} {Q : VK} (ha : TrAt H T a) (hb : TrAt H U b) (fT : Fine T) (fU : Fine U) (q : Q (.bl (decide (T = U))) H) : rEqD K a b H Q := by
  have := fT.dep
  have := fU.dep
  refine ⟨dt T, dt U, dp_tr ha, dp_tr hb, shaped_dt fT.str (by omega), shaped_dt fU.str (by omega), ?_⟩
  rw [eqv_dt]
  exact q
theorem ne_trees {K : PySem.W.Frag} {H : Hp} {a b : V} {T U : P22.Tr} {Q : VK} (ha : TrAt H T a) (hb : TrAt H U b) (fT : Fine T) (fU : Fine U) (q : Q (.bl (!decide (T = U))) H) : rNeD K a b H Q := by
  have := fT.dep
  have := fU.dep
  refine ⟨dt T, dt U, dp_tr ha, dp_tr hb, shaped_dt fT.str (by omega), shaped_dt fU.str (by omega), ?_⟩
  rw [eqv_dt]
  exact q
/-- what a walk over the tuple at l is to keep -/
def LoopT (K : PySem.W.Frag) (g : TG) (tb : TS) (D : Ends) (σ : L2.St) (H : Hp) (l : Addr) (xs : List V) : Prop := ∃ Pv : Nat → L2.St → Hp → Prop, Pv 0 σ H ∧ (∀ i σ' H', i ≤ xs.length → Pv i σ' H' → SqT K H' l xs) ∧
  (∀ i x σ' H', xs[i]? = some x → Pv i σ' H' → g x σ' H' fun σ2 H2 => tb { D with nx := Pv (i + 1), ct := Pv (i + 1), bk := D.nx } σ2 H2) ∧ ∀ σ' H', Pv xs.length σ' H' → D.nx σ' H'
theorem LoopT.run {K : PySem.W.Frag} {g : TG} {tb : TS} {D : Ends} {σ : L2.St} {H : Hp} {l : Addr} {xs : List V} (h : LoopT K g tb D σ H l xs) : ∃ W : Nat → Nat → L2.St → Hp → Prop, (∃ m, W 0 m σ H) ∧ ∀ i m σ H, W i m σ H →
    ((Itt K l).stop i H ∧ D.nx σ H) ∨ ((Itt K l).go i H ∧ ∃ N : L2.St → Hp → Prop, (∀ σ' H', N σ' H' → ∃ m', m' < m ∧ W (i + 1) m' σ' H') ∧ ∀ x H', (Itt K l).yld i H x H' → g x σ H' fun σ2 H2 => tb { D with nx := N, ct := N, bk := D.nx } σ2 H2) := by
  obtain ⟨Pv, h0, hl, hs, hd⟩ := h
  refine for_it (walk_tup (xs := xs)) Pv h0 hl ?_ hd
  rintro i x σ' H' H2 hi hP ⟨rfl, e⟩
  exact hs i x σ' H2 e hP
theorem for_tup_in {K : PySem.W.Frag} {tl : TE} {g : TG} {tb : TS} {D : Ends} {σ : L2.St} {H : Hp} {Pre : Hp → Addr → Prop} (h : ∀ R : VK, (∀ H1 l, Pre H1 l → R (.ref l) H1) → tl σ H R) (k : ∀ H1 l, Pre H1 l → ∃ xs, SqT K H1 l xs ∧ LoopT K g tb D σ H1 l xs) : tFor (iTup K tl) g tb D σ H :=
  h _ fun H1 l p => by
    obtain ⟨xs, hs, lp⟩ := k H1 l p
    exact ⟨l, rfl, ⟨xs, hs⟩, lp.run⟩
/-- the first k of a tuple -/
theorem sl_first {α : Type} {fn : α → V} {K : PySem.W.Frag} {H : Hp} {q : Addr} {xs : List α} {R : VK} (k : Nat) (h : H q = some (.tup (xs.map fn))) (r : ∀ H1 a, Same H H1 → H1 a = some (.tup ((xs.take k).map fn)) → R (.ref a) H1) : rSlA K (.ref q) none (some (k : Int)) H R := by
  refine ⟨q, _, rfl, sqT_of h, fun ⟨_, e⟩ => ?_, fun ne p hp => ?_⟩
  · rw [HT.sIx_nat, List.length_map] at e
    refine r H q (Same.refl H) ?_
    rw [List.take_of_length_le (by omega)]
    exact h
  · have le : k ≤ xs.length := by
      refine Nat.le_of_not_lt fun z => ne ⟨rfl, ?_⟩
      rw [HT.sIx_nat, List.length_map]
      omega
    refine r _ p (same_new hp) ?_
    rw [upd_same, cut_to le]
theorem lk_strs {n : Nat} {H : Hp} {a b : Addr} {zs : List V} (ha : H a = some (.lst zs)) (hb : H b = some (.lst zs)) (h : ∀ z ∈ zs, ∃ t, z = .str t) (hl : zs.length ≤ 100000) : Lk (n + 2) H (.ref a) (.ref b) :=
  .inr ⟨a, b, _, _, rfl, rfl, .inl ⟨ha, hb⟩, rfl, hl, fun i u v hu hv => by
    rw [hu] at hv
    cases hv
    obtain ⟨t, rfl⟩ := h u (List.mem_of_getElem? hu)
    exact .inl ⟨_, rfl, rfl⟩⟩
section
variable {P : Program} {w : World} {K : PySem.W.Frag} {mg : Str → Option Value} {base : Heap} {f CU CB CN : Addr} {fd : FuncData}
theorem sd64 : FnScope ["tree", "other", "made", "goal", "told", "kept", "again", "deed"] ["tree", "other"] (defScope (top 64)) := fnScope_by (by decide +kernel)
def spLed : Sp := fun vs H Q _ => ∃ v u T U, vs = [v, u] ∧ TrAt H T v ∧ TrAt H U u ∧ Fine T ∧ Fine U ∧ (P22.leaves T).Perm (P22.leaves U) ∧ ∀ H', Same H H' → Q (.bl true) H'
theorem ok_led (m : Mg K mg) (tc : Tc K mg) (c__law_spell : Cal P w K mg base 25 "_law_spell" (spSpell 24) []) (c__law_walked : Cal P w K mg base 26 "_law_walked" spWalked []) (c__law_like : Cal P w K mg base 3 "_law_like" (spLike 3) [])
    (c_Tree : Mak P w K mg base 4 "Tree" (cT K) (spInit (cT K)) []) (c_turn_tree : CalN P w K mg base 6 "turn_tree" (spTurn (cT K) CB CN)) (c_turns_between : CalN P w K mg base 5 "turns_between" (spTB (cT K) CU))
    (F : Fn K "_law_led" 64 f fd) (g : mg "_law_led" = some (.ref f)) : Cal P w K mg base 27 "_law_led" spLed [] := by
  have sc := sd64
  refine calD F g sc (fun _ _ _ _ _ _ us hl => match us, hl with | [_, _], _ => rfl) ?_ fun cdv A outer s H vs Q E hr h => ?_
  · rintro vs H Q E ⟨v, u, T, U, rfl, _⟩
    rfl
  · obtain ⟨v, u, T, U, rfl, tv, tu, fT, fU, pm, q⟩ := h
    have room64 : (A.deeper (envOfC "_law_led" (defScope (top 64)) s.heap.objs.size f cdv)).units + 64 < cLine := by have := hr.un; omega
    refine ⟨_, (pss_cons (ps_set (i := 2) sc.nd rfl (.inl rfl) (pe_mk c_Tree hr (by omega) (by rfl) (pa_cons (pe_c c__law_spell hr (by omega) (by rfl) (pa_cons (pv 0) pa_nil)) pa_nil)))
      (pss_cons (ps_set (i := 3) sc.nd rfl (.inl rfl) (pe_mk c_Tree hr (by omega) (by rfl) (pa_cons (pe_c c__law_spell hr (by omega) (by rfl) (pa_cons (pv 1) pa_nil)) pa_nil)))
      (pss_cons (ps_set (i := 4) sc.nd rfl (.inl rfl) (pe_cN0 c_turns_between hr (by omega) (by rfl) (pa_cons (pv 2) (pa_cons (pv 3) pa_nil))))
      (pss_cons (ps_if ((pw_or (pt_not (pt_val (pe_callB call_isB (by rfl) m.isinstance_ boot_isinstance (pa_cons (pv 4) (pa_cons (pe_bltn (v := .ty "list") (by rfl) m.list_ boot_list rfl) pa_nil))))) (pw_or1 (pt_cmpR op_ne (pe_cmpR (op_eqD room64) (pv 0) (pv 1) (nomark _)) (pe_cmpR (op_eqD room64) (pv 4) (pe_lst pa_nil) (nomark _)) (nomark _))))).pt
        (pss_one (ps_ret pe_bl))
        pss_nil)
      (pss_cons (ps_if (pt_cmpR (op_neD room64) (pe_c c__law_walked hr (by omega) (by rfl) (pa_cons (pv 0) (pa_cons (pv 4) pa_nil))) (pv 1) (nomark _))
        (pss_one (ps_ret pe_bl))
        pss_nil)
      (pss_cons (ps_set (i := 5) sc.nd rfl (.inl rfl) (pe_callTy call_tuple_of (by rfl) m.tuple_ boot_tuple (pa_cons (pv 4) pa_nil)))
      (pss_cons (ps_expr (pe_bm PySem.F.plainAttrs_list PySem.F.slot_list_append PySem.F.type_list_append mt_append (pv 4) (pa_cons pe_str pa_nil)))
      (pss_cons (ps_expr (pe_bm0 PySem.F.plainAttrs_list PySem.F.slot_list_reverse PySem.F.type_list_reverse mt_reverse (pv 4)))
      (pss_cons (ps_set (i := 6) sc.nd rfl (.inl rfl) (pe_cN0 c_turns_between hr (by omega) (by rfl) (pa_cons (pv 2) (pa_cons (pv 3) pa_nil))))
      (pss_cons (ps_if ((pw_or (pt_not (pt_val (pe_c c__law_like hr (by omega) (by rfl) (pa_cons (pv 6) (pa_cons (pe_callTy call_list_of (by rfl) m.list_ boot_list (pa_cons (pv 5) pa_nil)) pa_nil))))) (pw_or1 (pt_not (pt_val (pe_c c__law_like hr (by omega) (by rfl) (pa_cons (pe_lst (pa_cons (pe_fld (pv 2) rfl) (pa_cons (pe_fld (pv 3) rfl) pa_nil))) (pa_cons (pe_lst (pa_cons (pe_c c__law_spell hr (by omega) (by rfl) (pa_cons (pv 0) pa_nil)) (pa_cons (pe_c c__law_spell hr (by omega) (by rfl) (pa_cons (pv 1) pa_nil)) pa_nil))) pa_nil)))))))).pt
        (pss_one (ps_ret pe_bl))
        pss_nil)
      (pss_cons (ps_for pown rfl (pi_tup (pe_slice sl_tupA (pv 5) po_none (po_some pe_int))) (pg_name (i := 7) sc.nd rfl (.inl rfl))
        (pss_one (ps_set (i := 2) sc.nd rfl (.inl rfl) (pe_cN0 c_turn_tree hr (by omega) (by rfl) (pa_cons (pv 2) (pa_cons (pv 7) pa_nil))))))
      (pss_one (ps_ret (pe_c c__law_like hr (by omega) (by rfl) (pa_cons (pe_fld (pv 2) rfl) (pa_cons (pe_c c__law_spell hr (by omega) (by rfl) (pa_cons (pe_c c__law_walked hr (by omega) (by rfl) (pa_cons (pv 0) (pa_cons (pe_callTy call_list_of (by rfl) m.list_ boot_list (pa_cons (pe_slice sl_tupA (pv 5) po_none (po_some pe_int)) pa_nil)) pa_nil))) pa_nil)) pa_nil)))))))))))))))), ?_⟩
    have szl := sizeLine_eq
    have dT := fT.dep
    have lT := fT.len
    have dU := fU.dep
    have lU := fU.len
    refine seq_cut (fun σ' H' => ∃ x, σ' = [some v, some u, some (.ref x), none, none, none, none, none] ∧ Same H H' ∧ TreeAt (cT K) H' x T) (fun D' hrt hn => ?_) ?_
    · simp only [L2.start, cxOf, tRet, tAndV, tOrV, tNotV, tCB, tCons, tNil, tVar, tC, tOp, tUn, tTest, tB, tIf, tIfS, tSeq, tAsg, tAnd, tOr, tNot, gName, tNext, tCall, tChain, rI, rI0, rEq, rNe, rGcd, rU, tM1, tM0, tSl, tPart, tNoPart, gTup, gCons, gNil, gSub, tTup, tLst, tPar, L2.rI, List.map_cons, List.map_nil, List.length_cons, List.length_nil, List.cons_append, List.nil_append, List.append_nil, List.getElem?_cons_zero, List.getElem?_cons_succ, List.set_cons_zero, List.set_cons_succ, Option.some.injEq, exists_eq_left, exists_eq_left', exists_eq_right, exists_and_left, exists_and_right, List.cons.injEq, and_true, true_and, V.int.injEq, V.str.injEq, V.bl.injEq, V.ref.injEq, List.replicate, Nat.reduceAdd, Nat.reduceSub, reduceCtorEq, false_and, and_false, if_true, if_false, Bool.false_eq_true, Bool.not_true, Bool.not_false, decide_eq_true_eq, exists_false, or_false, false_or, tMake]
      exact ⟨v, T, rfl, tv, by omega, by omega, mk_tree2 fT fun H1 x s1 nx ta => hn _ _ ⟨x, rfl, s1, ta⟩⟩
    rintro σ' H1 ⟨x, rfl, s1, tx1⟩
    refine seq_cut (fun σ' H' => ∃ y, σ' = [some v, some u, some (.ref x), some (.ref y), none, none, none, none] ∧ Same H H' ∧ TreeAt (cT K) H' x T ∧ TreeAt (cT K) H' y U) (fun D' hrt hn => ?_) ?_
    · simp only [L2.start, cxOf, tRet, tAndV, tOrV, tNotV, tCB, tCons, tNil, tVar, tC, tOp, tUn, tTest, tB, tIf, tIfS, tSeq, tAsg, tAnd, tOr, tNot, gName, tNext, tCall, tChain, rI, rI0, rEq, rNe, rGcd, rU, tM1, tM0, tSl, tPart, tNoPart, gTup, gCons, gNil, gSub, tTup, tLst, tPar, L2.rI, List.map_cons, List.map_nil, List.length_cons, List.length_nil, List.cons_append, List.nil_append, List.append_nil, List.getElem?_cons_zero, List.getElem?_cons_succ, List.set_cons_zero, List.set_cons_succ, Option.some.injEq, exists_eq_left, exists_eq_left', exists_eq_right, exists_and_left, exists_and_right, List.cons.injEq, and_true, true_and, V.int.injEq, V.str.injEq, V.bl.injEq, V.ref.injEq, List.replicate, Nat.reduceAdd, Nat.reduceSub, reduceCtorEq, false_and, and_false, if_true, if_false, Bool.false_eq_true, Bool.not_true, Bool.not_false, decide_eq_true_eq, exists_false, or_false, false_or, tMake]
      exact ⟨u, U, rfl, tu.same s1, by omega, by omega, mk_tree2 fU fun H2 y s2 ny ta => hn _ _ ⟨y, rfl, s1.trans s2, tx1.same s2, ta⟩⟩
    rintro σ' H2 ⟨y, rfl, s2, tx2, ty2⟩
    refine seq_cut (fun σ' H' => ∃ p ds, σ' = [some v, some u, some (.ref x), some (.ref y), some (.ref p), none, none, none] ∧ Same H2 H' ∧ H2 p = none ∧ H' p = some (.lst (ds.map dV)) ∧ ds.length ≤ 3000 ∧ (T = U → ds = []) ∧ P22.Walks T ds U ∧ ds = betw T U) (fun D' hrt hn => ?_) ?_
    · simp only [L2.start, cxOf, tRet, tAndV, tOrV, tNotV, tCB, tCons, tNil, tVar, tC, tOp, tUn, tTest, tB, tIf, tIfS, tSeq, tAsg, tAnd, tOr, tNot, gName, tNext, tCall, tChain, rI, rI0, rEq, rNe, rGcd, rU, tM1, tM0, tSl, tPart, tNoPart, gTup, gCons, gNil, gSub, tTup, tLst, tPar, L2.rI, List.map_cons, List.map_nil, List.length_cons, List.length_nil, List.cons_append, List.nil_append, List.append_nil, List.getElem?_cons_zero, List.getElem?_cons_succ, List.set_cons_zero, List.set_cons_succ, Option.some.injEq, exists_eq_left, exists_eq_left', exists_eq_right, exists_and_left, exists_and_right, List.cons.injEq, and_true, true_and, V.int.injEq, V.str.injEq, V.bl.injEq, V.ref.injEq, List.replicate, Nat.reduceAdd, Nat.reduceSub, reduceCtorEq, false_and, and_false, if_true, if_false, Bool.false_eq_true, Bool.not_true, Bool.not_false, decide_eq_true_eq, exists_false, or_false, false_or, tCallN, tCallS]
      exact ⟨x, y, T, U, rfl, tx2, ty2, fT, fU, .inl ⟨pm, fun H3 p ds s n hp l e wk eb => hn _ _ ⟨p, ds, rfl, s, n, hp, l, e, wk, eb⟩⟩⟩
    rintro σ' H3 ⟨p, ds, rfl, s3, np, hp, lds, eT, wk, eb⟩
    have wf := (walk_fine wk fT).2
    have okd : ∀ z ∈ ds.map P22.dtext, PyData.strOk (S z) = true := fun z hz => by
      obtain ⟨d, hd, rfl⟩ := List.mem_map.mp hz
      obtain ⟨fd, mm, hm⟩ := wf d hd
      exact dtext_ok hm fd
    have tv3 := tv.same (s2.trans s3)
    have tu3 := tu.same (s2.trans s3)
    refine seq_cut (fun σ' H' => σ' = [some v, some u, some (.ref x), some (.ref y), some (.ref p), none, none, none] ∧ Same H3 H') (fun D' hrt hn => ?_) ?_
    · simp only [L2.start, cxOf, tRet, tAndV, tOrV, tNotV, tCB, tCons, tNil, tVar, tC, tOp, tUn, tTest, tB, tIf, tIfS, tSeq, tAsg, tAnd, tOr, tNot, gName, tNext, tCall, tChain, rI, rI0, rEq, rNe, rGcd, rU, tM1, tM0, tSl, tPart, tNoPart, gTup, gCons, gNil, gSub, tTup, tLst, tPar, L2.rI, List.map_cons, List.map_nil, List.length_cons, List.length_nil, List.cons_append, List.nil_append, List.append_nil, List.getElem?_cons_zero, List.getElem?_cons_succ, List.set_cons_zero, List.set_cons_succ, Option.some.injEq, exists_eq_left, exists_eq_left', exists_eq_right, exists_and_left, exists_and_right, List.cons.injEq, and_true, true_and, V.int.injEq, V.str.injEq, V.bl.injEq, V.ref.injEq, List.replicate, Nat.reduceAdd, Nat.reduceSub, reduceCtorEq, false_and, and_false, if_true, if_false, Bool.false_eq_true, Bool.not_true, Bool.not_false, decide_eq_true_eq, exists_false, or_false, false_or]
      refine isi_nt (T := "list") (kd_lst hp) (eq_trees tv3 tu3 fT fU ⟨small (by decide), fun r hr1 => ?_⟩)
      refine eq_nilS (SqL.of (by rw [← dV_str]; exact same_new hr1 _ _ hp)) upd_same okd ⟨rfl, ?_⟩
      have e : decide (T = U) = decide (ds.map P22.dtext = []) := by
        rw [decide_eq_decide]
        constructor
        · intro z
          rw [eT z]
          rfl
        · intro z
          rw [List.map_eq_nil_iff] at z
          subst z
          cases wk
          rfl
      rw [e, if_neg (by simp)]
      exact hn _ _ ⟨rfl, same_new hr1⟩
    rintro σ' H4 ⟨rfl, s4⟩
    refine seq_cut (fun σ' H' => σ' = [some v, some u, some (.ref x), some (.ref y), some (.ref p), none, none, none] ∧ Same H3 H') (fun D' hrt hn => ?_) ?_
    · simp only [L2.start, cxOf, tRet, tAndV, tOrV, tNotV, tCB, tCons, tNil, tVar, tC, tOp, tUn, tTest, tB, tIf, tIfS, tSeq, tAsg, tAnd, tOr, tNot, gName, tNext, tCall, tChain, rI, rI0, rEq, rNe, rGcd, rU, tM1, tM0, tSl, tPart, tNoPart, gTup, gCons, gNil, gSub, tTup, tLst, tPar, L2.rI, List.map_cons, List.map_nil, List.length_cons, List.length_nil, List.cons_append, List.nil_append, List.append_nil, List.getElem?_cons_zero, List.getElem?_cons_succ, List.set_cons_zero, List.set_cons_succ, Option.some.injEq, exists_eq_left, exists_eq_left', exists_eq_right, exists_and_left, exists_and_right, List.cons.injEq, and_true, true_and, V.int.injEq, V.str.injEq, V.bl.injEq, V.ref.injEq, List.replicate, Nat.reduceAdd, Nat.reduceSub, reduceCtorEq, false_and, and_false, if_true, if_false, Bool.false_eq_true, Bool.not_true, Bool.not_false, decide_eq_true_eq, exists_false, or_false, false_or]
      refine ⟨v, p, T, U, ds, rfl, tv3.same s4, s4 _ _ hp, fT, wk, fun H5 z s5 tz => ne_trees tz (tu3.same (s4.trans s5)) fU fU ⟨_, rfl, ?_⟩⟩
      rw [if_neg (by simp)]
      exact hn _ _ ⟨rfl, s4.trans s5⟩
    rintro σ' H5 ⟨rfl, s5⟩
    have hp5 := s5 _ _ hp
    have np5 : ∀ {a : Addr} {o : HO}, H2 a = some o → a ≠ p := fun e => ne_of_none e np
    refine seq_cut (fun σ' H' => ∃ q, σ' = [some v, some u, some (.ref x), some (.ref y), some (.ref p), some (.ref q), none, none] ∧ Same H3 H' ∧ q ≠ p ∧ H' q = some (.tup (ds.map dV))) (fun D' hrt hn => ?_) ?_
    · simp only [L2.start, cxOf, tRet, tAndV, tOrV, tNotV, tCB, tCons, tNil, tVar, tC, tOp, tUn, tTest, tB, tIf, tIfS, tSeq, tAsg, tAnd, tOr, tNot, gName, tNext, tCall, tChain, rI, rI0, rEq, rNe, rGcd, rU, tM1, tM0, tSl, tPart, tNoPart, gTup, gCons, gNil, gSub, tTup, tLst, tPar, L2.rI, List.map_cons, List.map_nil, List.length_cons, List.length_nil, List.cons_append, List.nil_append, List.append_nil, List.getElem?_cons_zero, List.getElem?_cons_succ, List.set_cons_zero, List.set_cons_succ, Option.some.injEq, exists_eq_left, exists_eq_left', exists_eq_right, exists_and_left, exists_and_right, List.cons.injEq, and_true, true_and, V.int.injEq, V.str.injEq, V.bl.injEq, V.ref.injEq, List.replicate, Nat.reduceAdd, Nat.reduceSub, reduceCtorEq, false_and, and_false, if_true, if_false, Bool.false_eq_true, Bool.not_true, Bool.not_false, decide_eq_true_eq, exists_false, or_false, false_or]
      exact ⟨_, .inl ⟨SqL.of hp5, fun q hq => hn _ _ ⟨q, rfl, s5.trans (same_new hq), (fun z => by rw [z, hp5] at hq; cases hq), upd_same⟩⟩⟩
    rintro σ' H6 ⟨k, rfl, s6, nkp, hk6⟩
    have hp6 := s6 _ _ hp
    have s26 : Same H2 H6 := s3.trans s6
    refine seq_cut (fun σ' H' => σ' = [some v, some u, some (.ref x), some (.ref y), some (.ref p), some (.ref k), none, none] ∧ Same H2 H' ∧ H' k = some (.tup (ds.map dV)) ∧ H' p = some (.lst (ds.map dV ++ [.str "swap"]))) (fun D' hrt hn => ?_) ?_
    · simp only [tDrop, tBM, L2.start, cxOf, tRet, tAndV, tOrV, tNotV, tCB, tCons, tNil, tVar, tC, tOp, tUn, tTest, tB, tIf, tIfS, tSeq, tAsg, tAnd, tOr, tNot, gName, tNext, tCall, tChain, rI, rI0, rEq, rNe, rGcd, rU, tM1, tM0, tSl, tPart, tNoPart, gTup, gCons, gNil, gSub, tTup, tLst, tPar, L2.rI, List.map_cons, List.map_nil, List.length_cons, List.length_nil, List.cons_append, List.nil_append, List.append_nil, List.getElem?_cons_zero, List.getElem?_cons_succ, List.set_cons_zero, List.set_cons_succ, Option.some.injEq, exists_eq_left, exists_eq_left', exists_eq_right, exists_and_left, exists_and_right, List.cons.injEq, and_true, true_and, V.int.injEq, V.str.injEq, V.bl.injEq, V.ref.injEq, List.replicate, Nat.reduceAdd, Nat.reduceSub, reduceCtorEq, false_and, and_false, if_true, if_false, Bool.false_eq_true, Bool.not_true, Bool.not_false, decide_eq_true_eq, exists_false, or_false, false_or]
      refine ⟨.inl ⟨rfl, _, SqL.of hp6⟩, p, _, _, rfl, rfl, hp6, by rw [List.length_map, szl]; omega, hn _ _ ⟨rfl, fun a o e => ?_, ?_, upd_same⟩⟩
      · rw [upd_ne (np5 e)]
        exact s26 _ _ e
      · rw [upd_ne nkp]
        exact hk6
    rintro σ' H7 ⟨rfl, s7, hk7, hp7⟩
    refine seq_cut (fun σ' H' => σ' = [some v, some u, some (.ref x), some (.ref y), some (.ref p), some (.ref k), none, none] ∧ Same H2 H' ∧ H' k = some (.tup (ds.map dV))) (fun D' hrt hn => ?_) ?_
    · simp only [tDrop, tBM0, rReverse, L2.start, cxOf, tRet, tAndV, tOrV, tNotV, tCB, tCons, tNil, tVar, tC, tOp, tUn, tTest, tB, tIf, tIfS, tSeq, tAsg, tAnd, tOr, tNot, gName, tNext, tCall, tChain, rI, rI0, rEq, rNe, rGcd, rU, tM1, tM0, tSl, tPart, tNoPart, gTup, gCons, gNil, gSub, tTup, tLst, tPar, L2.rI, List.map_cons, List.map_nil, List.length_cons, List.length_nil, List.cons_append, List.nil_append, List.append_nil, List.getElem?_cons_zero, List.getElem?_cons_succ, List.set_cons_zero, List.set_cons_succ, Option.some.injEq, exists_eq_left, exists_eq_left', exists_eq_right, exists_and_left, exists_and_right, List.cons.injEq, and_true, true_and, V.int.injEq, V.str.injEq, V.bl.injEq, V.ref.injEq, List.replicate, Nat.reduceAdd, Nat.reduceSub, reduceCtorEq, false_and, and_false, if_true, if_false, Bool.false_eq_true, Bool.not_true, Bool.not_false, decide_eq_true_eq, exists_false, or_false, false_or]
      refine ⟨.inl ⟨rfl, _, SqL.of hp7⟩, _, hp7, hn _ _ ⟨rfl, fun a o e => ?_, ?_⟩⟩
      · rw [upd_ne (np5 e)]
        exact s7 _ _ e
      · rw [upd_ne nkp]
        exact hk7
    rintro σ' H8 ⟨rfl, s8, hk8⟩
    refine seq_cut (fun σ' H' => ∃ p2, σ' = [some v, some u, some (.ref x), some (.ref y), some (.ref p), some (.ref k), some (.ref p2), none] ∧ Same H8 H' ∧ H' p2 = some (.lst (ds.map dV))) (fun D' hrt hn => ?_) ?_
    · simp only [L2.start, cxOf, tRet, tAndV, tOrV, tNotV, tCB, tCons, tNil, tVar, tC, tOp, tUn, tTest, tB, tIf, tIfS, tSeq, tAsg, tAnd, tOr, tNot, gName, tNext, tCall, tChain, rI, rI0, rEq, rNe, rGcd, rU, tM1, tM0, tSl, tPart, tNoPart, gTup, gCons, gNil, gSub, tTup, tLst, tPar, L2.rI, List.map_cons, List.map_nil, List.length_cons, List.length_nil, List.cons_append, List.nil_append, List.append_nil, List.getElem?_cons_zero, List.getElem?_cons_succ, List.set_cons_zero, List.set_cons_succ, Option.some.injEq, exists_eq_left, exists_eq_left', exists_eq_right, exists_and_left, exists_and_right, List.cons.injEq, and_true, true_and, V.int.injEq, V.str.injEq, V.bl.injEq, V.ref.injEq, List.replicate, Nat.reduceAdd, Nat.reduceSub, reduceCtorEq, false_and, and_false, if_true, if_false, Bool.false_eq_true, Bool.not_true, Bool.not_false, decide_eq_true_eq, exists_false, or_false, false_or, tCallN, tCallS]
      exact ⟨x, y, T, U, rfl, tx2.same s8, ty2.same s8, fT, fU, .inl ⟨pm, fun H9 p2 ds2 s n h2 l e wk2 eb2 => hn _ _ ⟨p2, rfl, s, by rw [eb, ← eb2]; exact h2⟩⟩⟩
    rintro σ' H9 ⟨p2, rfl, s9, hp29⟩
    have hk9 := s9 _ _ hk8
    have s29 := s8.trans s9
    refine seq_cut (fun σ' H' => σ' = [some v, some u, some (.ref x), some (.ref y), some (.ref p), some (.ref k), some (.ref p2), none] ∧ Same H9 H') (fun D' hrt hn => ?_) ?_
    · simp only [L2.start, cxOf, tRet, tAndV, tOrV, tNotV, tCB, tCons, tNil, tVar, tC, tOp, tUn, tTest, tB, tIf, tIfS, tSeq, tAsg, tAnd, tOr, tNot, gName, tNext, tCall, tChain, rI, rI0, rEq, rNe, rGcd, rU, tM1, tM0, tSl, tPart, tNoPart, gTup, gCons, gNil, gSub, tTup, tLst, tPar, L2.rI, List.map_cons, List.map_nil, List.length_cons, List.length_nil, List.cons_append, List.nil_append, List.append_nil, List.getElem?_cons_zero, List.getElem?_cons_succ, List.set_cons_zero, List.set_cons_succ, Option.some.injEq, exists_eq_left, exists_eq_left', exists_eq_right, exists_and_left, exists_and_right, List.cons.injEq, and_true, true_and, V.int.injEq, V.str.injEq, V.bl.injEq, V.ref.injEq, List.replicate, Nat.reduceAdd, Nat.reduceSub, reduceCtorEq, false_and, and_false, if_true, if_false, Bool.false_eq_true, Bool.not_true, Bool.not_false, decide_eq_true_eq, exists_false, or_false, false_or, tFld]
      have alls : ∀ z ∈ ds.map dV, ∃ t, z = .str t := fun z hz => by
        obtain ⟨d, _, rfl⟩ := List.mem_map.mp hz
        exact ⟨_, rfl⟩
      refine ⟨_, .inr (sqT_of hk9), fun l hl => ⟨_, _, rfl, lk_strs (n := 1) (same_new hl _ _ hp29) upd_same alls (by rw [List.length_map]; omega), fun H10 s10 => ⟨true, rfl, ?_⟩⟩⟩
      have sA : Same H2 H10 := (s29.trans (same_new hl)).trans s10
      rw [if_neg (by decide)]
      obtain ⟨_, _, x1, x2⟩ := (tx2.same sA).text
      obtain ⟨_, _, x3, x4⟩ := (ty2.same sA).text
      refine ⟨_, _, _, x1, tc.cls, tc.fld _ (by decide), _, x2, _, _, _, x3, tc.cls, tc.fld _ (by decide), _, x4, small (by decide), fun p1 hp1 => ?_⟩
      have sp1 := same_new (o := .lst [spV T, spV U]) hp1
      have tvA : TrAt H10 T v := tv.same (s2.trans sA)
      have tuA : TrAt H10 U u := tu.same (s2.trans sA)
      refine ⟨v, T, rfl, tvA.same sp1, by omega, by omega, u, U, rfl, tuA.same sp1, by omega, by omega, small (by decide), fun p2' hp2' => ?_⟩
      have sp2 := same_new (o := .lst [spV T, spV U]) hp2'
      refine ⟨_, _, rfl, lk_strs (n := 1) (zs := [spV T, spV U]) (sp2 _ _ upd_same) upd_same (fun z hz => ?_) (by simp), fun H11 s11 => ⟨true, rfl, ?_⟩⟩
      · simp only [List.mem_cons, List.not_mem_nil, or_false] at hz
        rcases hz with rfl | rfl
        · exact ⟨_, rfl⟩
        · exact ⟨_, rfl⟩
      rw [if_neg (by decide)]
      exact hn _ _ ⟨rfl, ((same_new hl).trans s10).trans (sp1.trans (sp2.trans s11))⟩
    rintro σ' H10 ⟨rfl, s10⟩
    have hk10 := s10 _ _ hk9
    have s210 := s29.trans s10
    obtain ⟨T6, wk6⟩ := walk_take 6 wk
    have fT6 := (walk_fine wk6 fT).1
    refine seq_cut (fun σ' H' => ∃ x6 y7, σ' = [some v, some u, some (.ref x6), some (.ref y), some (.ref p), some (.ref k), some (.ref p2), y7] ∧ Same H10 H' ∧ TreeAt (cT K) H' x6 T6) (fun D' hrt hn => ?_) ?_
    · refine for_tup_in (Pre := fun H1 a => Same H10 H1 ∧ H1 a = some (.tup ((ds.take 6).map dV))) (fun R kk => ?_) fun H1 a ⟨sa, ha⟩ => ?_
      · simp only [L2.start, cxOf, tRet, tAndV, tOrV, tNotV, tCB, tCons, tNil, tVar, tC, tOp, tUn, tTest, tB, tIf, tIfS, tSeq, tAsg, tAnd, tOr, tNot, gName, tNext, tCall, tChain, rI, rI0, rEq, rNe, rGcd, rU, tM1, tM0, tSl, tPart, tNoPart, gTup, gCons, gNil, gSub, tTup, tLst, tPar, L2.rI, List.map_cons, List.map_nil, List.length_cons, List.length_nil, List.cons_append, List.nil_append, List.append_nil, List.getElem?_cons_zero, List.getElem?_cons_succ, List.set_cons_zero, List.set_cons_succ, Option.some.injEq, exists_eq_left, exists_eq_left', exists_eq_right, exists_and_left, exists_and_right, List.cons.injEq, and_true, true_and, V.int.injEq, V.str.injEq, V.bl.injEq, V.ref.injEq, List.replicate, Nat.reduceAdd, Nat.reduceSub, reduceCtorEq, false_and, and_false, if_true, if_false, Bool.false_eq_true, Bool.not_true, Bool.not_false, decide_eq_true_eq, exists_false, or_false, false_or]
        exact sl_first 6 hk10 fun H1 a s h => kk H1 a ⟨s, h⟩
      refine ⟨_, sqT_of ha, fun i σ' H' => ∃ xi Ti y7, σ' = [some v, some u, some (.ref xi), some (.ref y), some (.ref p), some (.ref k), some (.ref p2), y7] ∧ Same H1 H' ∧ TreeAt (cT K) H' xi Ti ∧ Fine Ti ∧ P22.Walks Ti ((ds.take 6).drop i) T6, ⟨x, T, none, rfl, Same.refl _, tx2.same (s210.trans sa), fT, wk6⟩, fun i σ' H' hi h => ?_, ?_, ?_⟩
      · obtain ⟨_, _, _, _, sH, _⟩ := h
        exact sqT_of (sH _ _ ha)
      · rintro i xx σ' H2 hx ⟨xi, Ti, y7, rfl, sH, ti, fi, wi⟩
        rw [List.getElem?_map] at hx
        obtain ⟨⟨kd, n⟩, hd, rfl⟩ := Option.map_eq_some_iff.mp hx
        have hdr : (ds.take 6).drop i = (kd, n) :: (ds.take 6).drop (i + 1) := by
          obtain ⟨li, e⟩ := List.getElem?_eq_some_iff.mp hd
          rw [List.drop_eq_getElem_cons li, e]
        rw [hdr] at wi
        cases wi with
        | cons hn1 hac hw =>
          have fn := fi.sub hn1
          have lk := kw_len kd
          have ln := fn.len
          simp only [L2.start, cxOf, tRet, tAndV, tOrV, tNotV, tCB, tCons, tNil, tVar, tC, tOp, tUn, tTest, tB, tIf, tIfS, tSeq, tAsg, tAnd, tOr, tNot, gName, tNext, tCall, tChain, rI, rI0, rEq, rNe, rGcd, rU, tM1, tM0, tSl, tPart, tNoPart, gTup, gCons, gNil, gSub, tTup, tLst, tPar, L2.rI, List.map_cons, List.map_nil, List.length_cons, List.length_nil, List.cons_append, List.nil_append, List.append_nil, List.getElem?_cons_zero, List.getElem?_cons_succ, List.set_cons_zero, List.set_cons_succ, Option.some.injEq, exists_eq_left, exists_eq_left', exists_eq_right, exists_and_left, exists_and_right, List.cons.injEq, and_true, true_and, V.int.injEq, V.str.injEq, V.bl.injEq, V.ref.injEq, List.replicate, Nat.reduceAdd, Nat.reduceSub, reduceCtorEq, false_and, and_false, if_true, if_false, Bool.false_eq_true, Bool.not_true, Bool.not_false, decide_eq_true_eq, exists_false, or_false, false_or, tCallN, tCallS]
          refine turn_good ti fi ?_ (dtext_words fn.ok) (kw_deed hac) fn ?_
          · unfold P22.dtext
            rw [List.length_append, List.length_cons]
            dsimp only
            omega
          rw [if_pos hn1, act_done hac]
          exact fun H3 z s3 nz tz => ⟨z, ⟨rfl, _, rfl⟩, sH.trans s3, _, tz, fi.put (act_done hac), hw⟩
      · rintro σ' H2 ⟨xi, Ti, y7, rfl, sH, ti, fi, wi⟩
        rw [List.length_map, List.drop_length] at wi
        cases wi
        exact hn _ _ ⟨xi, y7, rfl, sa.trans sH, ti⟩
    rintro σ' H11 ⟨x6, y7, rfl, s11, tx6⟩
    simp only [L2.start, cxOf, tRet, tAndV, tOrV, tNotV, tCB, tCons, tNil, tVar, tC, tOp, tUn, tTest, tB, tIf, tIfS, tSeq, tAsg, tAnd, tOr, tNot, gName, tNext, tCall, tChain, rI, rI0, rEq, rNe, rGcd, rU, tM1, tM0, tSl, tPart, tNoPart, gTup, gCons, gNil, gSub, tTup, tLst, tPar, L2.rI, List.map_cons, List.map_nil, List.length_cons, List.length_nil, List.cons_append, List.nil_append, List.append_nil, List.getElem?_cons_zero, List.getElem?_cons_succ, List.set_cons_zero, List.set_cons_succ, Option.some.injEq, exists_eq_left, exists_eq_left', exists_eq_right, exists_and_left, exists_and_right, List.cons.injEq, and_true, true_and, V.int.injEq, V.str.injEq, V.bl.injEq, V.ref.injEq, List.replicate, Nat.reduceAdd, Nat.reduceSub, reduceCtorEq, false_and, and_false, if_true, if_false, Bool.false_eq_true, Bool.not_true, Bool.not_false, decide_eq_true_eq, exists_false, or_false, false_or, tFld]
    obtain ⟨_, _, x1, x2⟩ := tx6.text
    have s211 := s210.trans s11
    have tv11 : TrAt H11 T v := tv.same (s2.trans s211)
    have d6 := fT6.dep
    have l6 := fT6.len
    refine ⟨_, _, _, x1, tc.cls, tc.fld _ (by decide), _, x2, sl_first 6 (s11 _ _ hk10) fun H12 a s12 ha => ⟨a, rfl, _, .inr (sqT_of ha), fun l hl => ?_⟩⟩
    refine ⟨v, l, T, T6, ds.take 6, rfl, tv11.same (s12.trans (same_new hl)), upd_same, fT, wk6, fun H13 z s13 tz => ⟨z, T6, rfl, tz, by omega, by omega, _, _, rfl, .inl ⟨_, rfl, rfl⟩, fun H14 s14 => ?_⟩⟩
    exact q H14 ((s2.trans s211).trans ((s12.trans (same_new hl)).trans (s13.trans s14)))
end
end W22

set_option Elab.async false
set_option linter.all false
set_option maxRecDepth 100000
set_option maxHeartbeats 4000000
/-! LW22: the law -/
namespace W22
open PySem PySem.Spec PyProof.Rows L2 Lay LamX
open SX (S S_len S_cat S_tl)
open C8 (Cal Mak pe_c pe_mk pe_gc fnScope_by E0)
def qL : Str := ("law" : Str) ++ (".<locals>." : Str) ++ ("<lambda>" : Str)
def TT (Pt : Addr) : List (Addr × Str) := [(Pt, qL)]
/-- what stands between the statements -/
structure Std (T2 : List (Addr × Str)) (ws : List P22.Wd) (b nl : Addr) (v : V) (T : P22.Tr) (u : V) (U : P22.Tr) (H : Hp) : Prop where
  bag : Bag H b
  tabs : Tabs T2 H
  hnl : H nl = some (wordsV ws)
  nb : nl ≠ b
  tr : TrAt H T v
  fine : Fine T
  lv : P22.leaves T = ws
  tu : TrAt H U u
  fineU : Fine U
  pm : (P22.leaves U).Perm ws
theorem Std.go {T2 : List (Addr × Str)} {ws : List P22.Wd} {b nl : Addr} {v : V} {T : P22.Tr} {u : V} {U : P22.Tr} {H H' : Hp} (s : Std T2 ws b nl v T u U H) (g : Go T2 b H H') : Std T2 ws b nl v T u U H' :=
  ⟨g.bag, g.tabs, g.keep _ _ s.nb s.hnl (fun _ z => by cases z), s.nb, s.tr.go s.bag g.keep, s.fine, s.lv, s.tu.go s.bag g.keep, s.fineU, s.pm⟩
theorem Std.ex {T2 : List (Addr × Str)} {ws : List P22.Wd} {b nl : Addr} {v : V} {T : P22.Tr} {u : V} {U : P22.Tr} {H H' : Hp} (s : Std T2 ws b nl v T u U H) (g : Ex b H H') : Std T2 ws b nl v T u U H' := s.go ((Go.rf s.bag s.tabs).ex g)
theorem Std.sm {T2 : List (Addr × Str)} {ws : List P22.Wd} {b nl : Addr} {v : V} {T : P22.Tr} {u : V} {U : P22.Tr} {H H' : Hp} (s : Std T2 ws b nl v T u U H) (g : Same H H') : Std T2 ws b nl v T u U H' := s.go ((Go.rf s.bag s.tabs).sm g)
theorem z_many {v : V} (h : v ∈ ([.int 1, .int 2, .int 3, .int 3, .int 4, .int 4, .int 5, .int 5, .int 6, .int 6, .int 7, .int 9] : List V)) : ∃ n : Nat, v = .int (n : Int) ∧ 1 ≤ n ∧ n ≤ 9 := by
  simp only [List.mem_cons, List.not_mem_nil, or_false] at h
  rcases h with rfl | rfl | rfl | rfl | rfl | rfl | rfl | rfl | rfl | rfl | rfl | rfl
  · exact ⟨1, rfl, by decide, by decide⟩
  · exact ⟨2, rfl, by decide, by decide⟩
  · exact ⟨3, rfl, by decide, by decide⟩
  · exact ⟨3, rfl, by decide, by decide⟩
  · exact ⟨4, rfl, by decide, by decide⟩
  · exact ⟨4, rfl, by decide, by decide⟩
  · exact ⟨5, rfl, by decide, by decide⟩
  · exact ⟨5, rfl, by decide, by decide⟩
  · exact ⟨6, rfl, by decide, by decide⟩
  · exact ⟨6, rfl, by decide, by decide⟩
  · exact ⟨7, rfl, by decide, by decide⟩
  · exact ⟨9, rfl, by decide, by decide⟩
theorem fine_of {T : P22.Tr} {ws : List P22.Wd} (h : (P22.leaves T).Perm ws) (g : ∀ u ∈ ws, nameB u = true) (nd : ws.Nodup) (l : ws.length ≤ 24) : Fine T :=
  ⟨fun u hu => ⟨g u (h.mem_iff.mp hu), name_of (g u (h.mem_iff.mp hu))⟩, h.nodup_iff.mpr nd, by rw [h.length_eq]; exact l⟩
theorem tup_ne {H : Hp} {a b : Addr} {xs : List V} (g : Bag H b) (h : H a = some (.tup xs)) : a ≠ b := by
  obtain ⟨l, ns, pos, big, mixed, cnt, left, hb, _⟩ := g
  intro z
  rw [z, hb] at h
  cases h
/-- one of a told list, or something else where it is empty -/
theorem if_acc {K : PySem.W.Frag} {σ : L2.St} {H : Hp} {D : Addr} {acc : List V} {te1 te2 : TE} {R : VK} {i : Nat} {Pre : V → Hp → Prop} (hσ : σ[i]? = some (some (.ref D))) (hD : H D = some (.lst acc)) (rest : ∀ y H1, Pre y H1 → R y H1)
    (h1 : acc ≠ [] → ∀ R' : VK, (∀ y H1, Pre y H1 → R' y H1) → te1 σ H R') (h2 : acc = [] → ∀ R' : VK, (∀ y H1, Pre y H1 → R' y H1) → te2 σ H R') : tIf (fun σ H Q => ∃ v, σ[i]? = some (some v) ∧ ∃ k, TruV K v H k ∧ Q k H) te1 te2 σ H R := by
  unfold tIf
  refine ⟨_, hσ, !acc.isEmpty, .inl ⟨acc, SqL.of hD, rfl⟩, ?_⟩
  cases acc with
  | nil =>
    rw [if_neg (by decide)]
    exact h2 rfl _ rest
  | cons c r =>
    rw [if_pos (show (!(c :: r).isEmpty) = true from rfl)]
    exact h1 (by simp) _ rest
section
variable {P : Program} {w : World} {K : PySem.W.Frag} {mg : Str → Option Value} {base : Heap} {CU CB CN : Addr} {fd : FuncData}
theorem sd65 : FnScope ["script", "bag", "names", "tree", "other", "kind", "words", "able", "one", "new", "fresh", "strange", "third", "pair"] ["script"] (defScope (top 65)) := fnScope_by (by decide +kernel)
def spLaw (K : PySem.W.Frag) (Pt : Addr) : Sp := fun vs H Q _ => ∃ (a : Addr) (ns : List Int), vs = [.ref a] ∧ SqL K H a (ns.map V.int) ∧ H Pt = some (.tbl #[]) ∧ ∀ H', Q (.bl true) H'
theorem ok_law (m : Mg K mg) (c__law_bag : Cal P w K mg base 1 "_law_bag" (spBag K) []) (c__law_draw : Cal P w K mg base 1 "_law_draw" spDraw []) (c__law_of : Cal P w K mg base 2 "_law_of" spPick []) (c__law_names : Cal P w K mg base 4 "_law_names" spNamesL [])
    (c__law_nested : Cal P w K mg base 21 "_law_nested" (spNest 20) []) (c__law_mix : Cal P w K mg base 2 "_law_mix" spMix []) (c__law_all : Cal P w K mg base 25 "_law_all" (spAll 24) []) (c__law_done : Cal P w K mg base 1 "_law_done" spDone []) (c__law_put : Cal P w K mg base 25 "_law_put" (spPut 24) [])
    (c__law_led : Cal P w K mg base 27 "_law_led" spLed []) (c__law_bad : Cal P w K mg base 1 "_law_bad" spBadU []) (c__law_spell : Cal P w K mg base 25 "_law_spell" (spSpell 24) [])
    (c_Tree : Mak P w K mg base 4 "Tree" (cT K) (spInit (cT K)) []) (c_turns_between : CalN P w K mg base 5 "turns_between" (spTB (cT K) CU)) (c_refused : CalL P w K mg base 28 26 "_law_refused" (spRef CU))
    (F : FunD K "law" "law" (defArgs (top 65)) (defBody (top 65)) (defScope (top 65)) [] [] (He.fAd K ("law", none)) fd) {c Pt : Addr}
    (hcT : He.codeOf K ("law", none) = c) (TB : TabB base mg c Pt) : FnOk P w K mg base C8.CX0 31 (He.fAd K ("law", none)) fd ["script"] (spLaw K Pt) := by
  have sc := sd65
  obtain ⟨oc, od, dV, kV, doc, pm, an, cdv, ct, osl, rfl, lk, hcd, _, _⟩ := F.ex
  obtain ⟨c0, rfl⟩ := He.codeIn_ref hcd
  obtain rfl : c0 = c := by rw [← hcT]; exact (He.codeOf_eq lk rfl).symm
  obtain ⟨gTf, gTd, gTp, fT, gT, kpT, bT⟩ := c_refused.ex
  have huT : ∀ p ∈ TT Pt, p.1 = Pt → p.2 = qL := fun p hp e => by
    simp only [TT, List.mem_cons, List.not_mem_nil, or_false] at hp
    rw [hp]
  have memT : (Pt, qL) ∈ TT Pt := by simp [TT]
  refine fn_of (k := 30) lk hcd sc ?_ fun A outer s H vs Q E hr h => ?_
  · rintro vs H Q E ⟨a, ns, rfl, _⟩
    rfl
  · obtain ⟨a, ns, rfl, sq, tb1, q⟩ := h
    refine ⟨_, PSs.nox (pss_cons (ps_set (i := 1) sc.nd rfl (.inl rfl) (pe_c c__law_bag hr (by omega) (by rfl) (pa_cons (pv 0) pa_nil)))
      (pss_cons (ps_set (i := 2) sc.nd rfl (.inl rfl) (pe_c c__law_names hr (by omega) (by rfl) (pa_cons (pv 1) (pa_cons (pe_c c__law_of hr (by omega) (by rfl) (pa_cons (pv 1) (pa_cons (pe_lst (pa_cons pe_int (pa_cons pe_int (pa_cons pe_int (pa_cons pe_int (pa_cons pe_int (pa_cons pe_int (pa_cons pe_int (pa_cons pe_int (pa_cons pe_int (pa_cons pe_int (pa_cons pe_int (pa_cons pe_int pa_nil))))))))))))) pa_nil))) (pa_cons (pe_lst pa_nil) pa_nil)))))
      (pss_cons (ps_set (i := 3) sc.nd rfl (.inl rfl) (pe_c c__law_nested hr (by omega) (by rfl) (pa_cons (pv 1) (pa_cons (pv 2) pa_nil))))
      (pss_cons (ps_set (i := 4) sc.nd rfl (.inl rfl) (pe_c c__law_nested hr (by omega) (by rfl) (pa_cons (pv 1) (pa_cons (pe_c c__law_mix hr (by omega) (by rfl) (pa_cons (pv 1) (pa_cons (pv 2) pa_nil))) pa_nil))))
      (pss_cons (ps_set (i := 5) sc.nd rfl (.inl rfl) (pe_c c__law_draw hr (by omega) (by rfl) (pa_cons (pv 1) (pa_cons pe_int pa_nil))))
      (pss_cons (ps_if (pt_cmpR op_eq (pv 5) pe_int (nomark _))
        (pss_one (ps_set (i := 4) sc.nd rfl (.inl rfl) (pv 3)))
        (pss_one (ps_if (pt_cmpR op_eq (pv 5) pe_int (nomark _))
          (pss_cons (ps_set (i := 6) sc.nd rfl (.inl rfl) (pe_lst (pa_cons pe_str (pa_cons pe_str (pa_cons pe_str pa_nil)))))
          (pss_cons (ps_setLc (i := 7) (own := [("one", 8)]) (g := gName 8) (by rfl) sc.nd rfl rfl (sw_true rfl rfl rfl (by decide +kernel)) (pi_list (pe_c c__law_all hr (by omega) (by rfl) (pa_cons (pv 3) pa_nil))) (blkOk_by (own := [("one", 8)]) (N := ["script", "bag", "names", "tree", "other", "kind", "words", "able", "one", "new", "fresh", "strange", "third", "pair"]) (sc := defScope (top 65)) (by decide +kernel)) (fun _ _ _ _ _ => pg_name (i := 8) sc.nd rfl (.inl rfl)) (fun _ _ _ _ _ => pts_one (pt_not (pt_val (pe_callB (show CallR _ (.builtin "isinstance") (Lay.rIsB K) from call_isB) (by rfl) m.isinstance_ boot_isinstance (pa_cons (pv 8) (pa_cons (pe_bltn (v := .ty "str") (by rfl) m.str_ boot_str rfl) pa_nil)))))) (fun _ _ _ _ _ => pv 8))
          (pss_cons (ps_set (i := 8) sc.nd rfl (.inl rfl) (pe_ifExp (pt_truth (pv 7) (fun _ => rfl)) (pe_c c__law_of hr (by omega) (by rfl) (pa_cons (pv 1) (pa_cons (pv 7) pa_nil))) (pv 3)))
          (pss_cons (ps_set (i := 9) sc.nd rfl (.inl rfl) (pe_c c__law_done hr (by omega) (by rfl) (pa_cons (pe_c c__law_of hr (by omega) (by rfl) (pa_cons (pv 1) (pa_cons (pv 6) pa_nil))) (pa_cons (pv 8) pa_nil))))
          (pss_one (ps_set (i := 4) sc.nd rfl (.inl rfl) (pe_ifExp (pt_cmpR op_isN (pv 9) pe_non (nomark _)) (pv 3) (pe_c c__law_put hr (by omega) (by rfl) (pa_cons (pv 3) (pa_cons (pv 8) (pa_cons (pv 9) pa_nil)))))))))))
          pss_nil)))
      (pss_cons (ps_if ((pw_or (pt_not (pt_val (pe_c c__law_led hr (by omega) (by rfl) (pa_cons (pv 3) (pa_cons (pv 4) pa_nil))))) (pw_or (pt_not (pt_val (pe_c c__law_led hr (by omega) (by rfl) (pa_cons (pv 4) (pa_cons (pv 3) pa_nil))))) (pw_or1 (pt_not (pt_val (pe_c c__law_led hr (by omega) (by rfl) (pa_cons (pv 4) (pa_cons (pv 4) pa_nil))))))))).pt
        (pss_one (ps_ret pe_bl))
        pss_nil)
      (pss_cons (ps_set (i := 10) sc.nd rfl (.inl rfl) (pe_c c__law_names hr (by omega) (by rfl) (pa_cons (pv 1) (pa_cons pe_int (pa_cons (pv 2) pa_nil)))))
      (pss_cons (ps_set (i := 5) sc.nd rfl (.inl rfl) (pe_c c__law_draw hr (by omega) (by rfl) (pa_cons (pv 1) (pa_cons pe_int pa_nil))))
      (pss_cons (ps_set (i := 11) sc.nd rfl (.inl rfl) (pe_op op_cat (pv 2) (pv 10)))
      (pss_cons (ps_if (pt_cmpR op_eq (pv 5) pe_int (nomark _))
        (pss_one (ps_set (i := 11) sc.nd rfl (.inl rfl) (pe_op op_cat (pe_slice sl_list (pv 2) (po_some pe_int) po_none) (pv 10))))
        (pss_one (ps_if ((pw_and (pt_cmpR op_eq (pv 5) pe_int (nomark _)) (pw_and1 (pt_cmpR op_gt (pe_callB call_len (by rfl) m.len_ boot_len (pa_cons (pv 2) pa_nil)) pe_int (nomark _))))).pt
          (pss_one (ps_set (i := 11) sc.nd rfl (.inl rfl) (pe_slice sl_list (pv 2) (po_some pe_int) po_none)))
          pss_nil)))
      (pss_cons (ps_set (i := 12) sc.nd rfl (.inl rfl) (pe_c c__law_nested hr (by omega) (by rfl) (pa_cons (pv 1) (pa_cons (pe_c c__law_mix hr (by omega) (by rfl) (pa_cons (pv 1) (pa_cons (pv 11) pa_nil))) pa_nil))))
      (pss_cons (ps_for pown rfl (pi_tup (pe_tup (pa_cons (pe_tup (pa_cons (pv 3) (pa_cons (pv 12) pa_nil))) (pa_cons (pe_tup (pa_cons (pv 12) (pa_cons (pv 4) pa_nil))) pa_nil)))) (pg_name (i := 13) sc.nd rfl (.inr rfl))
        (pss_one (ps_if (pt_not (pt_val (pe_lamN (CXL := L2N.CX P w) (T := TT Pt) (E := fun _ => C8.E0) fT (hr.mono (by omega)) (by rfl) gT kpT bT (fun _ _ _ _ _ _ _ h => h.elim) TB rfl memT huT (lamS_by (sc := defScope (top 65)) (by decide +kernel)) (by rfl) (fun _ _ _ _ _ => by rfl) (fun A outer s H E f c' r => pe_cN c_turns_between r (by omega) (by rfl) (takesL rfl rfl) (pa_cons (pe_mk c_Tree r (by omega) (by rfl) (pa_cons (pe_c c__law_spell r (by omega) (by rfl) (pa_cons (pe_ix (show IxR _ (rIxT K) from ix_tup) (pv 13) pe_int (fun _ _ => rfl)) pa_nil)) pa_nil)) (pa_cons (pe_mk c_Tree r (by omega) (by rfl) (pa_cons (pe_c c__law_spell r (by omega) (by rfl) (pa_cons (pe_ix (show IxR _ (rIxT K) from ix_tup) (pv 13) pe_int (fun _ _ => rfl)) pa_nil)) pa_nil)) pa_nil))) (pa_cons (pe_c c__law_bad hr (by omega) (by rfl) (pa_cons pe_str (pa_cons (pe_lst (pa_cons pe_str pa_nil)) pa_nil))) pa_nil))))
          (pss_one (ps_ret pe_bl))
          pss_nil)))
      (pss_one (ps_ret pe_bl))))))))))))))), ?_⟩
    have T0 : Tabs (TT Pt) H := fun p hp => by
      simp only [TT, List.mem_cons, List.not_mem_nil, or_false] at hp
      subst hp
      exact TabS.nil tb1
    refine seq_cut (fun σ' H' => ∃ b, σ' = [some (.ref a), some (.ref b), none, none, none, none, none, none, none, none, none, none, none, none] ∧ Bag H' b ∧ Tabs (TT Pt) H') (fun D' hrt hn => ?_) ?_
    · simp only [L2.start, cxOf, tRet, tAndV, tOrV, tNotV, tCB, tCons, tNil, tVar, tC, tOp, tUn, tTest, tB, tIf, tIfS, tSeq, tAsg, tAnd, tOr, tNot, gName, tNext, tCall, tChain, rI, rI0, rEq, rNe, rGcd, rU, tM1, tM0, tSl, tPart, tNoPart, gTup, gCons, gNil, gSub, tTup, tLst, tPar, L2.rI, List.map_cons, List.map_nil, List.length_cons, List.length_nil, List.cons_append, List.nil_append, List.append_nil, List.getElem?_cons_zero, List.getElem?_cons_succ, List.set_cons_zero, List.set_cons_succ, Option.some.injEq, exists_eq_left, exists_eq_left', exists_eq_right, exists_and_left, exists_and_right, List.cons.injEq, and_true, true_and, V.int.injEq, V.str.injEq, V.bl.injEq, V.ref.injEq, List.replicate, Nat.reduceAdd, Nat.reduceSub, reduceCtorEq, false_and, and_false, if_true, if_false, Bool.false_eq_true, Bool.not_true, Bool.not_false, decide_eq_true_eq, exists_false, or_false, false_or, tCallS]
      exact ⟨a, ns, rfl, sq, fun H1 b s1 hb bag => hn _ _ ⟨b, rfl, bag, T0.ext s1⟩⟩
    rintro σ' H1 ⟨b, rfl, bag, T1⟩
    refine seq_cut (fun σ' H' => ∃ nl ws, σ' = [some (.ref a), some (.ref b), some (.ref nl), none, none, none, none, none, none, none, none, none, none, none] ∧ Bag H' b ∧ Tabs (TT Pt) H' ∧ H' nl = some (wordsV ws) ∧ nl ≠ b ∧ 0 < ws.length ∧ ws.length ≤ 9 ∧ ws.Nodup ∧ ∀ u ∈ ws, nameB u = true) (fun D' hrt hn => ?_) ?_
    · simp only [L2.start, cxOf, tRet, tAndV, tOrV, tNotV, tCB, tCons, tNil, tVar, tC, tOp, tUn, tTest, tB, tIf, tIfS, tSeq, tAsg, tAnd, tOr, tNot, gName, tNext, tCall, tChain, rI, rI0, rEq, rNe, rGcd, rU, tM1, tM0, tSl, tPart, tNoPart, gTup, gCons, gNil, gSub, tTup, tLst, tPar, L2.rI, List.map_cons, List.map_nil, List.length_cons, List.length_nil, List.cons_append, List.nil_append, List.append_nil, List.getElem?_cons_zero, List.getElem?_cons_succ, List.set_cons_zero, List.set_cons_succ, Option.some.injEq, exists_eq_left, exists_eq_left', exists_eq_right, exists_and_left, exists_and_right, List.cons.injEq, and_true, true_and, V.int.injEq, V.str.injEq, V.bl.injEq, V.ref.injEq, List.replicate, Nat.reduceAdd, Nat.reduceSub, reduceCtorEq, false_and, and_false, if_true, if_false, Bool.false_eq_true, Bool.not_true, Bool.not_false, decide_eq_true_eq, exists_false, or_false, false_or, tCallS]
      refine ⟨small (by decide), fun p hp => pick_new bag hp (by simp) (by simp) fun H2 z x2 hz => ?_⟩
      obtain ⟨n, rfl, n1, n2⟩ := z_many hz
      refine ⟨small (by decide), fun t ht => ?_⟩
      have bag2 := x2.bag
      have T2 := tabs_keep T1 x2 bag
      refine ⟨b, t, n, [], rfl, (bag_new bag2 ht).2, upd_same, new_ne bag2 ht, by omega, by simp, fun H3 l ws x3 nl hl lw nd good => hn _ _ ⟨l, ws, rfl, x3.bag, tabs_keep (T2.ext (same_new ht)) x3 (bag_new bag2 ht).2, hl, new_ne (bag_new bag2 ht).2 nl, by omega, by omega, nd, fun u hu => (good u hu).1⟩⟩
    rintro σ' H2 ⟨nl, ws, rfl, bag2, T2, hnl, nb, p1, p2, nd, good⟩
    refine seq_cut (fun σ' H' => ∃ v T, σ' = [some (.ref a), some (.ref b), some (.ref nl), some v, none, none, none, none, none, none, none, none, none, none] ∧ Bag H' b ∧ Tabs (TT Pt) H' ∧ H' nl = some (wordsV ws) ∧ TrAt H' T v ∧ Fine T ∧ P22.leaves T = ws) (fun D' hrt hn => ?_) ?_
    · simp only [L2.start, cxOf, tRet, tAndV, tOrV, tNotV, tCB, tCons, tNil, tVar, tC, tOp, tUn, tTest, tB, tIf, tIfS, tSeq, tAsg, tAnd, tOr, tNot, gName, tNext, tCall, tChain, rI, rI0, rEq, rNe, rGcd, rU, tM1, tM0, tSl, tPart, tNoPart, gTup, gCons, gNil, gSub, tTup, tLst, tPar, L2.rI, List.map_cons, List.map_nil, List.length_cons, List.length_nil, List.cons_append, List.nil_append, List.append_nil, List.getElem?_cons_zero, List.getElem?_cons_succ, List.set_cons_zero, List.set_cons_succ, Option.some.injEq, exists_eq_left, exists_eq_left', exists_eq_right, exists_and_left, exists_and_right, List.cons.injEq, and_true, true_and, V.int.injEq, V.str.injEq, V.bl.injEq, V.ref.injEq, List.replicate, Nat.reduceAdd, Nat.reduceSub, reduceCtorEq, false_and, and_false, if_true, if_false, Bool.false_eq_true, Bool.not_true, Bool.not_false, decide_eq_true_eq, exists_false, or_false, false_or, tCallS]
      exact ⟨b, nl, ws, rfl, bag2, hnl, nb, p1, by omega, by omega, fun H3 v t x3 lt tr => hn _ _ ⟨v, t, rfl, x3.bag, tabs_keep T2 x3 bag2, x3.keep _ _ nb hnl, tr H3 (fun _ _ _ e => e), fine_of (lt ▸ List.Perm.refl _) good nd (by omega), lt⟩⟩
    rintro σ' H3 ⟨v, T, rfl, bag3, T3, hnl3, tr3, fine3, lv3⟩
    refine seq_cut (fun σ' H' => ∃ u U, σ' = [some (.ref a), some (.ref b), some (.ref nl), some v, some u, none, none, none, none, none, none, none, none, none] ∧ Std (TT Pt) ws b nl v T u U H') (fun D' hrt hn => ?_) ?_
    · simp only [L2.start, cxOf, tRet, tAndV, tOrV, tNotV, tCB, tCons, tNil, tVar, tC, tOp, tUn, tTest, tB, tIf, tIfS, tSeq, tAsg, tAnd, tOr, tNot, gName, tNext, tCall, tChain, rI, rI0, rEq, rNe, rGcd, rU, tM1, tM0, tSl, tPart, tNoPart, gTup, gCons, gNil, gSub, tTup, tLst, tPar, L2.rI, List.map_cons, List.map_nil, List.length_cons, List.length_nil, List.cons_append, List.nil_append, List.append_nil, List.getElem?_cons_zero, List.getElem?_cons_succ, List.set_cons_zero, List.set_cons_succ, Option.some.injEq, exists_eq_left, exists_eq_left', exists_eq_right, exists_and_left, exists_and_right, List.cons.injEq, and_true, true_and, V.int.injEq, V.str.injEq, V.bl.injEq, V.ref.injEq, List.replicate, Nat.reduceAdd, Nat.reduceSub, reduceCtorEq, false_and, and_false, if_true, if_false, Bool.false_eq_true, Bool.not_true, Bool.not_false, decide_eq_true_eq, exists_false, or_false, false_or, tCallS]
      refine ⟨b, nl, ws, rfl, bag3, hnl3, nb, by omega, fun H4 l ys x4 nl4 hl pm => ?_⟩
      have lw := pm.length_eq
      refine ⟨b, l, ys, rfl, x4.bag, hl, new_ne bag3 nl4, by omega, by omega, by omega, fun H5 u U x5 lt tu => hn _ _ ⟨u, U, rfl, ?_⟩⟩
      have g5 := ((Go.rf bag3 T3).ex x4).ex x5
      exact ⟨g5.bag, g5.tabs, g5.keep _ _ nb hnl3 (fun _ z => by cases z), nb, tr3.go bag3 g5.keep, fine3, lv3, tu H5 (fun _ _ _ e => e), fine_of (lt ▸ pm) good nd (by omega), lt ▸ pm⟩
    rintro σ' H4 ⟨u, U, rfl, st4⟩
    refine seq_cut (fun σ' H' => ∃ kd : Int, σ' = [some (.ref a), some (.ref b), some (.ref nl), some v, some u, some (.int kd), none, none, none, none, none, none, none, none] ∧ Std (TT Pt) ws b nl v T u U H') (fun D2 hrt2 hn2 => ?_) ?_
    · simp only [L2.start, cxOf, tRet, tAndV, tOrV, tNotV, tCB, tCons, tNil, tVar, tC, tOp, tUn, tTest, tB, tIf, tIfS, tSeq, tAsg, tAnd, tOr, tNot, gName, tNext, tCall, tChain, rI, rI0, rEq, rNe, rGcd, rU, tM1, tM0, tSl, tPart, tNoPart, gTup, gCons, gNil, gSub, tTup, tLst, tPar, L2.rI, List.map_cons, List.map_nil, List.length_cons, List.length_nil, List.cons_append, List.nil_append, List.append_nil, List.getElem?_cons_zero, List.getElem?_cons_succ, List.set_cons_zero, List.set_cons_succ, Option.some.injEq, exists_eq_left, exists_eq_left', exists_eq_right, exists_and_left, exists_and_right, List.cons.injEq, and_true, true_and, V.int.injEq, V.str.injEq, V.bl.injEq, V.ref.injEq, List.replicate, Nat.reduceAdd, Nat.reduceSub, reduceCtorEq, false_and, and_false, if_true, if_false, Bool.false_eq_true, Bool.not_true, Bool.not_false, decide_eq_true_eq, exists_false, or_false, false_or, tCallS]
      exact ⟨b, 6, rfl, st4.bag, by decide, by decide, fun H6 d x6 _ _ => hn2 _ _ ⟨d, rfl, st4.ex x6⟩⟩
    rintro σ' H5 ⟨kd, rfl, st5⟩
    refine seq_cut (fun σ' H' => ∃ u U y6 y7 y8 y9, σ' = [some (.ref a), some (.ref b), some (.ref nl), some v, some u, some (.int kd), y6, y7, y8, y9, none, none, none, none] ∧ Std (TT Pt) ws b nl v T u U H') (fun D2 hrt2 hn2 => ?_) ?_
    · simp only [L2.start, cxOf, tRet, tAndV, tOrV, tNotV, tCB, tCons, tNil, tVar, tC, tOp, tUn, tTest, tB, tSeq, tAsg, tNot, gName, tNext, tCall, tChain, rI, rI0, rEq, rNe, rGcd, rU, tM1, tM0, tSl, tPart, tNoPart, gTup, gCons, gNil, gSub, tTup, tLst, tPar, L2.rI, List.map_cons, List.map_nil, List.length_cons, List.length_nil, List.cons_append, List.nil_append, List.append_nil, List.getElem?_cons_zero, List.getElem?_cons_succ, List.set_cons_zero, List.set_cons_succ, Option.some.injEq, exists_eq_left, exists_eq_left', exists_eq_right, exists_and_left, exists_and_right, List.cons.injEq, and_true, true_and, V.int.injEq, V.str.injEq, V.bl.injEq, V.ref.injEq, List.replicate, Nat.reduceAdd, Nat.reduceSub, reduceCtorEq, false_and, and_false, if_true, if_false, Bool.false_eq_true, Bool.not_true, Bool.not_false, decide_eq_true_eq, exists_false, or_false, false_or, tCallS, tIfS]
      have dT := st5.fine.dep
      have nT := st5.fine.nodes
      refine ⟨rfl, ?_⟩
      by_cases k0 : kd = 0
      · rw [if_pos k0]
        exact hn2 _ _ ⟨v, T, _, _, _, _, rfl, { st5 with tu := st5.tr, fineU := st5.fine, pm := st5.lv ▸ List.Perm.refl _ }⟩
      rw [if_neg k0]
      refine ⟨rfl, ?_⟩
      by_cases k1 : kd = 1
      · rw [if_pos k1]
        refine ⟨small (by decide), fun wl hwl => ?_⟩
        have wb : wl ≠ b := new_ne st5.bag hwl
        have st := st5.sm (same_new (o := .lst [V.str (Str.ofString "swap"), V.str (Str.ofString "right"), V.str (Str.ofString "left")]) hwl)
        have hwl2 : upd H5 wl (.lst [V.str (Str.ofString "swap"), V.str (Str.ofString "right"), V.str (Str.ofString "left")]) wl = some (.lst [V.str (Str.ofString "swap"), V.str (Str.ofString "right"), V.str (Str.ofString "left")]) := upd_same
        generalize upd H5 wl (.lst [V.str (Str.ofString "swap"), V.str (Str.ofString "right"), V.str (Str.ofString "left")]) = H6 at hwl2 st ⊢
        refine lc_all (i := 3) (v := 8) rfl st.tr (by omega) (by omega) (fun x => rfl) fun H8 l us8 s8 nl8 hl all D hD => ⟨fun i H' => Same H8 H' ∧ ∃ acc, H' D = some (.lst acc) ∧ acc.length ≤ i ∧ ∀ z ∈ acc, z ∈ us8, ⟨same_new hD, [], upd_same, by simp, by simp⟩, fun i H' hi h => SqL.of (h.1 _ _ hl), fun i z H' hz ⟨sH, acc, hDD, la, ma⟩ => ?_, fun H' ⟨sH, acc, hDD, la, ma⟩ => ?_⟩
        · obtain ⟨ti, hti, tzi⟩ := allat_at all hz
          have zi := List.mem_of_getElem? hz
          have li : i < us8.length := (List.getElem?_eq_some_iff.mp hz).1
          have lu := all.len
          have szl := sizeLine_eq
          unfold tNot tB tCB tCons tVar tNil tC
          refine ⟨z, rfl, ?_⟩
          dsimp only
          rcases tr_str (K := K) (tzi.same sH) with ⟨w, rfl, kd⟩ | ⟨l', r', rfl, kd⟩
          · exact isi_nt (T := "str") kd ⟨sH, acc, hDD, by omega, ma⟩
          · refine isi_nf (T := "str") kd ⟨z, rfl, acc, hDD, by omega, fun b' u' e => ?_, acc ++ [z], upd_same, by rw [List.length_append, List.length_singleton]; omega, fun z' hz' => ?_⟩
            · rw [upd_ne (ne_of_none e hD)]
              exact sH _ _ e
            · rcases List.mem_append.mp hz' with h | h
              · exact ma _ h
              · rw [List.mem_singleton.mp h]
                exact zi
        · have s78 := s8.trans sH
          have st8 := st.sm s78
          have nD : D ≠ b := new_ne (st.sm s8).bag hD
          have hw8 := s78 _ _ hwl2
          have lu := all.len
          have lacc : acc.length ≤ 1000 := by omega
          refine if_acc (Pre := fun y H1 => ∃ n, Std (TT Pt) ws b nl v T u U H1 ∧ H1 wl = some (.lst [V.str (Str.ofString "swap"), V.str (Str.ofString "right"), V.str (Str.ofString "left")]) ∧ TrAt H1 n y ∧ Fine n) rfl hDD ?_ (fun ne R' kk => ?_) (fun e0 R' kk => ?_)
          · rintro y H9 ⟨n, st9, hw9, ty, fn⟩
            refine ⟨b, _, rfl, st9.bag, .inl ⟨wl, _, rfl, hw9, wb, by simp, by simp, fun H10 x x10 hx => ?_⟩⟩
            obtain ⟨w, rfl, dw, nw⟩ := z_deed hx
            have st10 := st9.ex x10
            have ty10 := ty.go st9.bag fun a o n e _ => x10.keep a o n e
            have dn := fn.dep
            refine done_k ty10 fun H11 z s11 hz => ?_
            have st11 := st10.sm s11
            have ty11 := ty10.same s11
            simp only [L2.start, cxOf, tRet, tAndV, tOrV, tNotV, tCB, tCons, tNil, tVar, tC, tOp, tUn, tTest, tB, tIf, tIfS, tSeq, tAsg, tAnd, tOr, tNot, gName, tNext, tCall, tChain, rI, rI0, rEq, rNe, rGcd, rU, tM1, tM0, tSl, tPart, tNoPart, gTup, gCons, gNil, gSub, tTup, tLst, tPar, L2.rI, List.map_cons, List.map_nil, List.length_cons, List.length_nil, List.cons_append, List.nil_append, List.append_nil, List.getElem?_cons_zero, List.getElem?_cons_succ, List.set_cons_zero, List.set_cons_succ, Option.some.injEq, exists_eq_left, exists_eq_left', exists_eq_right, exists_and_left, exists_and_right, List.cons.injEq, and_true, true_and, V.int.injEq, V.str.injEq, V.bl.injEq, V.ref.injEq, List.replicate, Nat.reduceAdd, Nat.reduceSub, reduceCtorEq, false_and, and_false, if_true, if_false, Bool.false_eq_true, Bool.not_true, Bool.not_false, decide_eq_true_eq, exists_false, or_false, false_or]
            cases ed : doneT w n with
            | none =>
              rw [ed] at hz
              rw [if_pos (show z = .non from hz)]
              exact hn2 _ _ ⟨v, T, _, _, _, _, rfl, { st11 with tu := st11.tr, fineU := st11.fine, pm := st11.lv ▸ List.Perm.refl _ }⟩
            | some t =>
              rw [ed] at hz
              have tz : TrAt H11 t z := hz
              rw [if_neg (tr_ne tz)]
              refine ⟨v, y, z, T, n, t, rfl, st11.tr, ty11, tz, by omega, by omega, by omega, st5.fine.str, fn.str, fun H12 w' s12 tw => hn2 _ _ ⟨w', P22.put n t T, _, _, _, _, rfl, { st11.sm s12 with tu := tw, fineU := st5.fine.put ed, pm := ?_ }⟩⟩
              have := P22.put_perm (done_node ed).2 T
              rw [st5.lv] at this
              exact this
          · refine ⟨_, rfl, _, rfl, b, _, rfl, st8.bag, .inl ⟨D, _, rfl, hDD, nD, List.length_pos_iff.mpr ne, lacc, fun H9 y x9 hy => ?_⟩⟩
            obtain ⟨n, hn, ty⟩ := allat_mem all (ma y hy)
            exact kk _ _ ⟨n, st8.ex x9, x9.keep _ _ wb hw8, (ty.same sH).go st8.bag fun a o n e _ => x9.keep a o n e, st5.fine.sub hn⟩
          · exact ⟨_, rfl, kk _ _ ⟨T, st8, hw8, st8.tr, st8.fine⟩⟩
      · rw [if_neg k1]
        exact hn2 _ _ ⟨u, U, _, _, _, _, rfl, st5⟩
    clear st4 st5
    rintro σ' H6 ⟨u, U, y6, y7, y8, y9, rfl, st6⟩
    refine seq_cut (fun σ' H' => σ' = [some (.ref a), some (.ref b), some (.ref nl), some v, some u, some (.int kd), y6, y7, y8, y9, none, none, none, none] ∧ Std (TT Pt) ws b nl v T u U H') (fun D2 hrt2 hn2 => ?_) ?_
    · simp only [L2.start, cxOf, tRet, tAndV, tOrV, tNotV, tCB, tCons, tNil, tVar, tC, tOp, tUn, tTest, tB, tIf, tIfS, tSeq, tAsg, tAnd, tOr, tNot, gName, tNext, tCall, tChain, rI, rI0, rEq, rNe, rGcd, rU, tM1, tM0, tSl, tPart, tNoPart, gTup, gCons, gNil, gSub, tTup, tLst, tPar, L2.rI, List.map_cons, List.map_nil, List.length_cons, List.length_nil, List.cons_append, List.nil_append, List.append_nil, List.getElem?_cons_zero, List.getElem?_cons_succ, List.set_cons_zero, List.set_cons_succ, Option.some.injEq, exists_eq_left, exists_eq_left', exists_eq_right, exists_and_left, exists_and_right, List.cons.injEq, and_true, true_and, V.int.injEq, V.str.injEq, V.bl.injEq, V.ref.injEq, List.replicate, Nat.reduceAdd, Nat.reduceSub, reduceCtorEq, false_and, and_false, if_true, if_false, Bool.false_eq_true, Bool.not_true, Bool.not_false, decide_eq_true_eq, exists_false, or_false, false_or, tCallS]
      have pm : (P22.leaves T).Perm (P22.leaves U) := st6.lv ▸ st6.pm.symm
      refine ⟨v, u, T, U, rfl, st6.tr, st6.tu, st6.fine, st6.fineU, pm, fun H7 s7 => ⟨true, rfl, ?_⟩⟩
      have st7 := st6.sm s7
      rw [if_neg (by decide)]
      refine ⟨u, v, U, T, rfl, st7.tu, st7.tr, st6.fineU, st6.fine, pm.symm, fun H8 s8 => ⟨true, rfl, ?_⟩⟩
      have st8 := st7.sm s8
      rw [if_neg (by decide)]
      refine ⟨u, u, U, U, rfl, st8.tu, st8.tu, st6.fineU, st6.fineU, List.Perm.refl _, fun H9 s9 => ⟨true, rfl, ?_⟩⟩
      rw [if_neg (by decide)]
      exact hn2 _ _ ⟨rfl, st8.sm s9⟩
    rintro σ' H7 ⟨rfl, st7⟩
    refine seq_cut (fun σ' H' => ∃ fl x, σ' = [some (.ref a), some (.ref b), some (.ref nl), some v, some u, some (.int kd), y6, y7, y8, y9, some (.ref fl), none, none, none] ∧ Std (TT Pt) ws b nl v T u U H' ∧ H' fl = some (wordsV [x]) ∧ fl ≠ b ∧ nameB x = true ∧ x ∉ ws) (fun D2 hrt2 hn2 => ?_) ?_
    · simp only [L2.start, cxOf, tRet, tAndV, tOrV, tNotV, tCB, tCons, tNil, tVar, tC, tOp, tUn, tTest, tB, tIf, tIfS, tSeq, tAsg, tAnd, tOr, tNot, gName, tNext, tCall, tChain, rI, rI0, rEq, rNe, rGcd, rU, tM1, tM0, tSl, tPart, tNoPart, gTup, gCons, gNil, gSub, tTup, tLst, tPar, L2.rI, List.map_cons, List.map_nil, List.length_cons, List.length_nil, List.cons_append, List.nil_append, List.append_nil, List.getElem?_cons_zero, List.getElem?_cons_succ, List.set_cons_zero, List.set_cons_succ, Option.some.injEq, exists_eq_left, exists_eq_left', exists_eq_right, exists_and_left, exists_and_right, List.cons.injEq, and_true, true_and, V.int.injEq, V.str.injEq, V.bl.injEq, V.ref.injEq, List.replicate, Nat.reduceAdd, Nat.reduceSub, reduceCtorEq, false_and, and_false, if_true, if_false, Bool.false_eq_true, Bool.not_true, Bool.not_false, decide_eq_true_eq, exists_false, or_false, false_or, tCallS]
      refine ⟨b, nl, 1, ws, rfl, st7.bag, st7.hnl, st7.nb, by decide, by omega, fun H8 l fr x8 nl8 hl lf nf gf => ?_⟩
      obtain ⟨x, rfl⟩ : ∃ x, fr = [x] := List.length_eq_one_iff.mp lf
      obtain ⟨gx, ox⟩ := gf x (List.mem_singleton.mpr rfl)
      exact hn2 _ _ ⟨l, x, rfl, st7.ex x8, hl, new_ne st7.bag nl8, gx, ox⟩
    rintro σ' H8 ⟨fl, x, rfl, st8, hfl, fb, gx, ox⟩
    refine seq_cut (fun σ' H' => ∃ kd2 : Int, σ' = [some (.ref a), some (.ref b), some (.ref nl), some v, some u, some (.int kd2), y6, y7, y8, y9, some (.ref fl), none, none, none] ∧ Std (TT Pt) ws b nl v T u U H' ∧ H' fl = some (wordsV [x])) (fun D2 hrt2 hn2 => ?_) ?_
    · simp only [L2.start, cxOf, tRet, tAndV, tOrV, tNotV, tCB, tCons, tNil, tVar, tC, tOp, tUn, tTest, tB, tIf, tIfS, tSeq, tAsg, tAnd, tOr, tNot, gName, tNext, tCall, tChain, rI, rI0, rEq, rNe, rGcd, rU, tM1, tM0, tSl, tPart, tNoPart, gTup, gCons, gNil, gSub, tTup, tLst, tPar, L2.rI, List.map_cons, List.map_nil, List.length_cons, List.length_nil, List.cons_append, List.nil_append, List.append_nil, List.getElem?_cons_zero, List.getElem?_cons_succ, List.set_cons_zero, List.set_cons_succ, Option.some.injEq, exists_eq_left, exists_eq_left', exists_eq_right, exists_and_left, exists_and_right, List.cons.injEq, and_true, true_and, V.int.injEq, V.str.injEq, V.bl.injEq, V.ref.injEq, List.replicate, Nat.reduceAdd, Nat.reduceSub, reduceCtorEq, false_and, and_false, if_true, if_false, Bool.false_eq_true, Bool.not_true, Bool.not_false, decide_eq_true_eq, exists_false, or_false, false_or, tCallS]
      exact ⟨b, 3, rfl, st8.bag, by decide, by decide, fun H9 d x9 _ _ => hn2 _ _ ⟨d, rfl, st8.ex x9, x9.keep _ _ fb hfl⟩⟩
    rintro σ' H9 ⟨kd2, rfl, st9, hfl9⟩
    have ndx : (ws ++ [x]).Nodup := List.nodup_append.mpr ⟨nd, by simp, fun y hy z hz e => by
      rw [List.mem_singleton.mp hz] at e
      exact ox (e ▸ hy)⟩
    have gox : ∀ y ∈ ws ++ [x], nameB y = true := fun y hy => by
      rcases List.mem_append.mp hy with z | z
      · exact good y z
      · rw [List.mem_singleton.mp z]
        exact gx
    have nbl : ∀ {p : Addr} {H' : Hp}, H' p = none → Bag H' b → p ≠ b := fun h g => new_ne g h
    refine seq_cut (fun σ' H' => ∃ sl zs, σ' = [some (.ref a), some (.ref b), some (.ref nl), some v, some u, some (.int kd2), y6, y7, y8, y9, some (.ref fl), some (.ref sl), none, none] ∧ Std (TT Pt) ws b nl v T u U H' ∧ H' fl = some (wordsV [x]) ∧ H' sl = some (wordsV zs) ∧ sl ≠ b ∧ zs = ws ++ [x]) (fun D2 hrt2 hn2 => ?_) ?_
    · simp only [L2.start, cxOf, tRet, tAndV, tOrV, tNotV, tCB, tCons, tNil, tVar, tC, tOp, tUn, tTest, tB, tIf, tIfS, tSeq, tAsg, tAnd, tOr, tNot, gName, tNext, tCall, tChain, rI, rI0, rEq, rNe, rGcd, rU, tM1, tM0, tSl, tPart, tNoPart, gTup, gCons, gNil, gSub, tTup, tLst, tPar, L2.rI, List.map_cons, List.map_nil, List.length_cons, List.length_nil, List.cons_append, List.nil_append, List.append_nil, List.getElem?_cons_zero, List.getElem?_cons_succ, List.set_cons_zero, List.set_cons_succ, Option.some.injEq, exists_eq_left, exists_eq_left', exists_eq_right, exists_and_left, exists_and_right, List.cons.injEq, and_true, true_and, V.int.injEq, V.str.injEq, V.bl.injEq, V.ref.injEq, List.replicate, Nat.reduceAdd, Nat.reduceSub, reduceCtorEq, false_and, and_false, if_true, if_false, Bool.false_eq_true, Bool.not_true, Bool.not_false, decide_eq_true_eq, exists_false, or_false, false_or]
      refine ⟨nl, fl, _, _, rfl, rfl, st9.hnl, hfl9, by simp [sizeLine_eq]; omega, fun p hp => hn2 _ _ ⟨p, ws ++ [x], rfl, st9.sm (same_new hp), same_new hp _ _ hfl9, ?_, new_ne st9.bag hp, rfl⟩⟩
      rw [upd_same, wordsV, List.map_append]
    rintro σ' H10 ⟨sl, zs, rfl, st10, hfl10, hsl, sb, rfl⟩
    refine seq_cut (fun σ' H' => ∃ sl zs, σ' = [some (.ref a), some (.ref b), some (.ref nl), some v, some u, some (.int kd2), y6, y7, y8, y9, some (.ref fl), some (.ref sl), none, none] ∧ Std (TT Pt) ws b nl v T u U H' ∧ H' sl = some (wordsV zs) ∧ sl ≠ b ∧ 0 < zs.length ∧ zs.length ≤ 10 ∧ zs.Nodup ∧ (∀ u ∈ zs, nameB u = true) ∧ ¬ zs.Perm ws) (fun D2 hrt2 hn2 => ?_) ?_
    · simp only [L2.start, cxOf, tRet, tAndV, tOrV, tNotV, tCB, tCons, tNil, tVar, tC, tOp, tUn, tTest, tB, tSeq, tAsg, tNot, gName, tNext, tCall, tChain, rI, rI0, rEq, rNe, rGcd, rU, tM1, tM0, tSl, tPart, tNoPart, gTup, gCons, gNil, gSub, tTup, tLst, tPar, L2.rI, List.map_cons, List.map_nil, List.length_cons, List.length_nil, List.cons_append, List.nil_append, List.append_nil, List.getElem?_cons_zero, List.getElem?_cons_succ, List.set_cons_zero, List.set_cons_succ, Option.some.injEq, exists_eq_left, exists_eq_left', exists_eq_right, exists_and_left, exists_and_right, List.cons.injEq, and_true, true_and, V.int.injEq, V.str.injEq, V.bl.injEq, V.ref.injEq, List.replicate, Nat.reduceAdd, Nat.reduceSub, reduceCtorEq, false_and, and_false, if_true, if_false, Bool.false_eq_true, Bool.not_true, Bool.not_false, decide_eq_true_eq, exists_false, or_false, false_or, tIfS]
      have ec : cutV (List.map (fun w => V.str (S w)) ws) (some 1) none = wV (ws.drop 1) := cut_from (k := 1) (by omega)
      have big : ∀ σ, σ = [some (.ref a), some (.ref b), some (.ref nl), some v, some u, some (.int kd2), y6, y7, y8, y9, some (.ref fl), some (.ref sl), none, none] → D2.nx σ H10 := fun σ e => hn2 _ _ ⟨sl, ws ++ [x], e, st10, hsl, sb, by simp, by simp; omega, ndx, gox, fun z => by
        have := z.length_eq
        simp at this⟩
      refine ⟨rfl, ?_⟩
      by_cases k0 : kd2 = 0
      · rw [if_pos k0]
        refine ⟨nl, _, rfl, SqL.of st10.hnl, fun p hp => ?_⟩
        rw [ec]
        have st11 := st10.sm (same_new (o := .lst (wV (ws.drop 1))) hp)
        refine ⟨p, fl, _, _, rfl, rfl, upd_same, same_new hp _ _ hfl10, by simp [sizeLine_eq]; omega, fun p2 hp2 => hn2 _ _ ⟨p2, ws.drop 1 ++ [x], rfl, st11.sm (same_new hp2), ?_, new_ne st11.bag hp2, by simp, by simp; omega, ?_, fun y hy => ?_, fun z => ox (z.mem_iff.mp (by simp))⟩⟩
        · rw [upd_same, wordsV, List.map_append]
        · exact List.Nodup.sublist (List.Sublist.append (List.drop_sublist 1 ws) (List.Sublist.refl _)) ndx
        · rcases List.mem_append.mp hy with z | z
          · exact good y (List.mem_of_mem_drop z)
          · rw [List.mem_singleton.mp z]
            exact gx
      rw [if_neg k0]
      unfold tAnd
      simp only [L2.start, cxOf, tRet, tAndV, tOrV, tNotV, tCB, tCons, tNil, tVar, tC, tOp, tUn, tTest, tB, tIf, tIfS, tSeq, tAsg, tAnd, tOr, tNot, gName, tNext, tCall, tChain, rI, rI0, rEq, rNe, rGcd, rU, tM1, tM0, tSl, tPart, tNoPart, gTup, gCons, gNil, gSub, tTup, tLst, tPar, L2.rI, List.map_cons, List.map_nil, List.length_cons, List.length_nil, List.cons_append, List.nil_append, List.append_nil, List.getElem?_cons_zero, List.getElem?_cons_succ, List.set_cons_zero, List.set_cons_succ, Option.some.injEq, exists_eq_left, exists_eq_left', exists_eq_right, exists_and_left, exists_and_right, List.cons.injEq, and_true, true_and, V.int.injEq, V.str.injEq, V.bl.injEq, V.ref.injEq, List.replicate, Nat.reduceAdd, Nat.reduceSub, reduceCtorEq, false_and, and_false, if_true, if_false, Bool.false_eq_true, Bool.not_true, Bool.not_false, decide_eq_true_eq, exists_false, or_false, false_or]
      refine ⟨rfl, ?_⟩
      by_cases k1 : kd2 = 1
      · rw [if_pos k1]
        refine ⟨_, len_L (SqL.of st10.hnl), ?_⟩
        by_cases c : (1 : Int) < (ws.length : Int)
        · rw [if_pos (by rw [List.length_map]; exact c)]
          refine ⟨nl, _, rfl, SqL.of st10.hnl, fun p hp => ?_⟩
          rw [ec]
          refine hn2 _ _ ⟨p, ws.drop 1, rfl, st10.sm (same_new hp), upd_same, new_ne st10.bag hp, ?_, ?_, List.Nodup.sublist (List.drop_sublist 1 ws) nd, fun y hy => good y (List.mem_of_mem_drop hy), fun z => ?_⟩
          · rw [List.length_drop]
            omega
          · rw [List.length_drop]
            omega
          · have := z.length_eq
            rw [List.length_drop] at this
            omega
        · rw [if_neg (by rw [List.length_map]; exact c)]
          exact big _ rfl
      · rw [if_neg k1]
        exact big _ rfl
    rintro σ' H11 ⟨sl2, zs, rfl, st11, hsl2, sb2, z1, z2, ndz, goz, npz⟩
    refine seq_cut (fun σ' H' => ∃ t W, σ' = [some (.ref a), some (.ref b), some (.ref nl), some v, some u, some (.int kd2), y6, y7, y8, y9, some (.ref fl), some (.ref sl2), some t, none] ∧ Std (TT Pt) ws b nl v T u U H' ∧ TrAt H' W t ∧ Fine W ∧ ¬ (P22.leaves W).Perm ws) (fun D2 hrt2 hn2 => ?_) ?_
    · simp only [L2.start, cxOf, tRet, tAndV, tOrV, tNotV, tCB, tCons, tNil, tVar, tC, tOp, tUn, tTest, tB, tIf, tIfS, tSeq, tAsg, tAnd, tOr, tNot, gName, tNext, tCall, tChain, rI, rI0, rEq, rNe, rGcd, rU, tM1, tM0, tSl, tPart, tNoPart, gTup, gCons, gNil, gSub, tTup, tLst, tPar, L2.rI, List.map_cons, List.map_nil, List.length_cons, List.length_nil, List.cons_append, List.nil_append, List.append_nil, List.getElem?_cons_zero, List.getElem?_cons_succ, List.set_cons_zero, List.set_cons_succ, Option.some.injEq, exists_eq_left, exists_eq_left', exists_eq_right, exists_and_left, exists_and_right, List.cons.injEq, and_true, true_and, V.int.injEq, V.str.injEq, V.bl.injEq, V.ref.injEq, List.replicate, Nat.reduceAdd, Nat.reduceSub, reduceCtorEq, false_and, and_false, if_true, if_false, Bool.false_eq_true, Bool.not_true, Bool.not_false, decide_eq_true_eq, exists_false, or_false, false_or, tCallS]
      refine ⟨b, sl2, zs, rfl, st11.bag, hsl2, sb2, by omega, fun H12 l ys x12 nl12 hl pm => ?_⟩
      have lw := pm.length_eq
      refine ⟨b, l, ys, rfl, x12.bag, hl, new_ne st11.bag nl12, by omega, by omega, by omega, fun H13 t W x13 lt tu => hn2 _ _ ⟨t, W, rfl, (st11.ex x12).ex x13, tu H13 (fun _ _ _ e => e), fine_of (lt ▸ pm) goz ndz (by omega), fun z => npz ((lt ▸ pm).symm.trans z)⟩⟩
    rintro σ' H12 ⟨t, W, rfl, st12, tw, fW, npW⟩
    refine seq_cut (fun _ _ => True) (fun D' hrt hn => ?_) fun σ' H' _ => ?_
    · refine for_tup_in (Pre := fun H1 p => ∃ c1 c2, Same H12 H1 ∧ H1 p = some (.tup [.ref c1, .ref c2]) ∧ H1 c1 = some (.tup [v, t]) ∧ H1 c2 = some (.tup [t, u])) (fun R kk => ?_) fun H1 p ⟨c1, c2, s1, hp, h1, h2⟩ => ?_
      · simp only [L2.start, cxOf, tRet, tAndV, tOrV, tNotV, tCB, tCons, tNil, tVar, tC, tOp, tUn, tTest, tB, tIf, tIfS, tSeq, tAsg, tAnd, tOr, tNot, gName, tNext, tCall, tChain, rI, rI0, rEq, rNe, rGcd, rU, tM1, tM0, tSl, tPart, tNoPart, gTup, gCons, gNil, gSub, tTup, tLst, tPar, L2.rI, List.map_cons, List.map_nil, List.length_cons, List.length_nil, List.cons_append, List.nil_append, List.append_nil, List.getElem?_cons_zero, List.getElem?_cons_succ, List.set_cons_zero, List.set_cons_succ, Option.some.injEq, exists_eq_left, exists_eq_left', exists_eq_right, exists_and_left, exists_and_right, List.cons.injEq, and_true, true_and, V.int.injEq, V.str.injEq, V.bl.injEq, V.ref.injEq, List.replicate, Nat.reduceAdd, Nat.reduceSub, reduceCtorEq, false_and, and_false, if_true, if_false, Bool.false_eq_true, Bool.not_true, Bool.not_false, decide_eq_true_eq, exists_false, or_false, false_or]
        refine ⟨small (by decide), fun p1 h1 => ⟨small (by decide), fun p2 h2 => ⟨small (by decide), fun p3 h3 => ?_⟩⟩⟩
        have q1 := same_new (o := .tup [v, t]) h1
        have q2 := same_new (o := .tup [t, u]) h2
        have q3 := same_new (o := .tup [.ref p1, .ref p2]) h3
        exact kk _ p3 ⟨p1, p2, q1.trans (q2.trans q3), upd_same, q3 _ _ (q2 _ _ upd_same), q3 _ _ upd_same⟩
      have st := st12.sm s1
      refine ⟨_, sqT_of hp, fun i σ' H' => ∃ y13, σ' = [some (.ref a), some (.ref b), some (.ref nl), some v, some u, some (.int kd2), y6, y7, y8, y9, some (.ref fl), some (.ref sl2), some t, y13] ∧ Std (TT Pt) ws b nl v T u U H' ∧ H' p = some (.tup [.ref c1, .ref c2]) ∧ H' c1 = some (.tup [v, t]) ∧ H' c2 = some (.tup [t, u]) ∧ TrAt H' W t, ⟨none, rfl, st, hp, h1, h2, tw.same s1⟩, fun i σ' H' hi h => ?_, ?_, fun σ' H' h => hn _ _ trivial⟩
      · obtain ⟨_, _, _, e, _⟩ := h
        exact sqT_of e
      rintro i xx σ' H2 hx ⟨y13, rfl, st2, hp2, hc1, hc2, tw2⟩
      obtain ⟨c', v1, T1, v2, T2, rfl, hc', t1, f1, t2, f2, np⟩ : ∃ c' v1 T1 v2 T2, xx = .ref c' ∧ H2 c' = some (.tup [v1, v2]) ∧ TrAt H2 T1 v1 ∧ Fine T1 ∧ TrAt H2 T2 v2 ∧ Fine T2 ∧ ¬ (P22.leaves T1).Perm (P22.leaves T2) := by
        match i, hx with
        | 0, hx =>
          cases hx
          exact ⟨c1, v, T, t, W, rfl, hc1, st2.tr, st2.fine, tw2, fW, fun z => npW (st2.lv ▸ z.symm)⟩
        | 1, hx =>
          cases hx
          exact ⟨c2, t, W, u, U, rfl, hc2, tw2, fW, st2.tu, st2.fineU, fun z => npW (z.trans st2.pm)⟩
        | i + 2, hx => simp at hx
      show tIfS _ _ _ _ [some (.ref a), some (.ref b), some (.ref nl), some v, some u, some (.int kd2), y6, y7, y8, y9, some (.ref fl), some (.ref sl2), some t, some (.ref c')] H2
      have g2 : Go (TT Pt) b H2 H2 := Go.rf st2.bag st2.tabs
      have cb := tup_ne st2.bag hc'
      simp only [L2.start, cxOf, tRet, tAndV, tOrV, tNotV, tCB, tCons, tNil, tVar, tC, tOp, tUn, tTest, tB, tIf, tIfS, tSeq, tAsg, tAnd, tOr, tNot, gName, tNext, tCall, tChain, rI, rI0, rEq, rNe, rGcd, rU, tM1, tM0, tSl, tPart, tNoPart, gTup, gCons, gNil, gSub, tTup, tLst, tPar, L2.rI, List.map_cons, List.map_nil, List.length_cons, List.length_nil, List.cons_append, List.nil_append, List.append_nil, List.getElem?_cons_zero, List.getElem?_cons_succ, List.set_cons_zero, List.set_cons_succ, Option.some.injEq, exists_eq_left, exists_eq_left', exists_eq_right, exists_and_left, exists_and_right, List.cons.injEq, and_true, true_and, V.int.injEq, V.str.injEq, V.bl.injEq, V.ref.injEq, List.replicate, Nat.reduceAdd, Nat.reduceSub, reduceCtorEq, false_and, and_false, if_true, if_false, Bool.false_eq_true, Bool.not_true, Bool.not_false, decide_eq_true_eq, exists_false, or_false, false_or, tMake, tCallS, WE]
      refine ⟨st2.tabs, fun H3 cl e3 t3 hcl => ?_⟩
      have g3 := g2.xt e3 t3
      simp only [L2.start, cxOf, tRet, tAndV, tOrV, tNotV, tCB, tCons, tNil, tVar, tC, tOp, tUn, tTest, tB, tIf, tIfS, tSeq, tAsg, tAnd, tOr, tNot, gName, tNext, tCall, tChain, rI, rI0, rEq, rNe, rGcd, rU, tM1, tM0, tSl, tPart, tNoPart, gTup, gCons, gNil, gSub, tTup, tLst, tPar, L2.rI, List.map_cons, List.map_nil, List.length_cons, List.length_nil, List.cons_append, List.nil_append, List.append_nil, List.getElem?_cons_zero, List.getElem?_cons_succ, List.set_cons_zero, List.set_cons_succ, Option.some.injEq, exists_eq_left, exists_eq_left', exists_eq_right, exists_and_left, exists_and_right, List.cons.injEq, and_true, true_and, V.int.injEq, V.str.injEq, V.bl.injEq, V.ref.injEq, List.replicate, Nat.reduceAdd, Nat.reduceSub, reduceCtorEq, false_and, and_false, if_true, if_false, Bool.false_eq_true, Bool.not_true, Bool.not_false, decide_eq_true_eq, exists_false, or_false, false_or]
      refine ⟨small (by decide), fun l hl => ⟨l, rfl, upd_same, fun H4 d s4 nd4 hd => ?_⟩⟩
      have s34 := (same_new (o := .lst [V.str (Str.ofString "things")]) hl).trans s4
      have g4 := g3.sm s34
      refine ⟨d, rfl, fun H5 Q' E' s5 er => ⟨s5 _ _ (s34 _ _ hcl), ?_⟩, fun H5 s5 => ⟨true, rfl, ?_⟩⟩
      · have g5 := g4.sm s5
        have hc5 : H5 c' = some (.tup [v1, v2]) := g5.keep _ _ cb hc' (fun _ z => by cases z)
        have t15 := t1.go st2.bag g5.keep
        have t25 := t2.go st2.bag g5.keep
        have d1 := f1.dep
        have l1 := f1.len
        have d2 := f2.dep
        have l2 := f2.len
        simp only [L2.start, cxOf, tRet, tAndV, tOrV, tNotV, tCB, tCons, tNil, tVar, tC, tOp, tUn, tTest, tB, tIf, tIfS, tSeq, tAsg, tAnd, tOr, tNot, gName, tNext, tCall, tChain, rI, rI0, rEq, rNe, rGcd, rU, tM1, tM0, tSl, tPart, tNoPart, gTup, gCons, gNil, gSub, tTup, tLst, tPar, L2.rI, List.map_cons, List.map_nil, List.length_cons, List.length_nil, List.cons_append, List.nil_append, List.append_nil, List.getElem?_cons_zero, List.getElem?_cons_succ, List.set_cons_zero, List.set_cons_succ, Option.some.injEq, exists_eq_left, exists_eq_left', exists_eq_right, exists_and_left, exists_and_right, List.cons.injEq, and_true, true_and, V.int.injEq, V.str.injEq, V.bl.injEq, V.ref.injEq, List.replicate, Nat.reduceAdd, Nat.reduceSub, reduceCtorEq, false_and, and_false, if_true, if_false, Bool.false_eq_true, Bool.not_true, Bool.not_false, decide_eq_true_eq, exists_false, or_false, false_or, tMake, tCallS, WE]
        refine ixT hc5 0 rfl ⟨v1, T1, rfl, t15, by omega, by omega, mk_tree2 f1 fun H6 x6 s6 n6 ta6 => ?_⟩
        refine ixT (s6 _ _ hc5) 1 rfl ⟨v2, T2, rfl, t25.same s6, by omega, by omega, mk_tree2 f2 fun H7 x7 s7 n7 ta7 => ?_⟩
        refine ⟨x6, x7, T1, T2, rfl, ta6.same s7, ta7, f1, f2, .inr ⟨np, fun H8 dd s8 nn e => ?_⟩⟩
        exact er _ _ H8 (s6.trans (s7.trans s8)) ⟨rfl, dd, _, rfl, e, hd⟩
      · rw [if_neg (by decide)]
        have g5 := g4.sm s5
        have keep : ∀ {a : Addr} {xs : List V}, H2 a = some (.tup xs) → H5 a = some (.tup xs) := fun h => g5.keep _ _ (tup_ne st2.bag h) h (fun _ z => by cases z)
        exact ⟨st2.go g5, keep hp2, keep hc1, keep hc2, tw2.go st2.bag g5.keep⟩
    · simp only [L2.start, cxOf, tRet, tAndV, tOrV, tNotV, tCB, tCons, tNil, tVar, tC, tOp, tUn, tTest, tB, tIf, tIfS, tSeq, tAsg, tAnd, tOr, tNot, gName, tNext, tCall, tChain, rI, rI0, rEq, rNe, rGcd, rU, tM1, tM0, tSl, tPart, tNoPart, gTup, gCons, gNil, gSub, tTup, tLst, tPar, L2.rI, List.map_cons, List.map_nil, List.length_cons, List.length_nil, List.cons_append, List.nil_append, List.append_nil, List.getElem?_cons_zero, List.getElem?_cons_succ, List.set_cons_zero, List.set_cons_succ, Option.some.injEq, exists_eq_left, exists_eq_left', exists_eq_right, exists_and_left, exists_and_right, List.cons.injEq, and_true, true_and, V.int.injEq, V.str.injEq, V.bl.injEq, V.ref.injEq, List.replicate, Nat.reduceAdd, Nat.reduceSub, reduceCtorEq, false_and, and_false, if_true, if_false, Bool.false_eq_true, Bool.not_true, Bool.not_false, decide_eq_true_eq, exists_false, or_false, false_or]
      exact q _
end
end W22

set_option Elab.async false
set_option linter.all false
set_option maxRecDepth 100000
set_option maxHeartbeats 4000000
/-! MN22: every def; the theorem -/
namespace W22
open PySem PySem.Spec PyProof.Rows L2 Lay LamX
open C8 (Cal Mak)
section
variable {w : World} {K : PySem.W.Frag} {h : Heap} {mg : Str → Option Value}
theorem facts {P : Program} (X : K.In h) (G : h.Ns mainGlobals mg) (c : He.SaysX fas fns [] tfs exB w h K) : ∃ (fd : FuncData), (∀ (s : Shared) (v : Value), BindsTo s fd ⟨[v], []⟩ [("script", v)]) ∧
    ∀ base : Heap, K.In base → base.Ns mainGlobals mg → TabB base mg (He.cT K ("law", none)).1 (He.cT K ("law", none)).2 →
      FnOk P w K mg base C8.CX0 31 (He.fAd K ("law", none)) fd ["script"] (spLaw K (He.cT K ("law", none)).2) := by
  obtain ⟨fdB, B⟩ := bad_of X G c
  obtain ⟨fdN, N⟩ := nos_of X G c
  obtain ⟨fdU, U⟩ := unl_of X G c
  obtain ⟨m, dk, tc, ti⟩ := mg_of X G c
  have A := all_of c
  have gl : ∀ x : Str, He.Fa.glo x ∈ fas → mg x = some (.ref (He.ga K x)) := fun x hx => He.glo_ok X G (c.t.d.facts hx)
  have df : ∀ (i : Nat) (x : Str) (j : Nat), fns[i]? = some (defD x j) → ∃ fd, Fn K x j (He.ga K x) fd := fun i x j e => c.t.d.def_ i (d := defD x j) e
  have dm : ∀ (i : Nat) (x q : Str) (j : Nat), fns[i]? = some (metD "Tree" x q 41 j) → ∃ fd, Mt K x q 41 j (He.fAd K ("Tree", some x)) fd := fun i x q j e => c.t.d.def_ i (d := metD "Tree" x q 41 j) e
  obtain ⟨f0, F0⟩ := df 0 "check_length" 22 rfl
  obtain ⟨f1, F1⟩ := df 1 "words_of" 23 rfl
  obtain ⟨f2, F2⟩ := df 2 "tree_words" 24 rfl
  obtain ⟨f3, F3⟩ := df 3 "is_value" 25 rfl
  obtain ⟨f4, F4⟩ := df 4 "is_name" 26 rfl
  obtain ⟨f5, F5⟩ := df 5 "tree_names" 28 rfl
  obtain ⟨f6, F6⟩ := df 6 "tree_text" 29 rfl
  obtain ⟨f7, F7⟩ := df 7 "tree_halves" 30 rfl
  obtain ⟨f8, F8⟩ := df 8 "right_comb" 31 rfl
  obtain ⟨f9, F9⟩ := df 9 "comb_deeds" 32 rfl
  obtain ⟨f10, F10⟩ := df 10 "exchange_deeds" 33 rfl
  obtain ⟨f11, F11⟩ := df 11 "order_deeds" 34 rfl
  obtain ⟨f12, F12⟩ := df 12 "turned_node" 38 rfl
  obtain ⟨f13, F13⟩ := df 13 "turn_tree" 39 rfl
  obtain ⟨f14, F14⟩ := df 14 "turns_between" 40 rfl
  obtain ⟨f15, F15⟩ := df 15 "_law_bag" 43 rfl
  obtain ⟨f16, F16⟩ := df 16 "_law_draw" 44 rfl
  obtain ⟨f17, F17⟩ := df 17 "_law_of" 45 rfl
  obtain ⟨f18, F18⟩ := df 18 "_law_mix" 46 rfl
  obtain ⟨f19, F19⟩ := df 19 "_law_like" 47 rfl
  obtain ⟨f20, F20⟩ := df 20 "_law_error" 48 rfl
  obtain ⟨f21, F21⟩ := df 21 "_law_try" 49 rfl
  obtain ⟨f22, F22⟩ := df 22 "_law_bad" 50 rfl
  obtain ⟨f23, F23⟩ := df 23 "_law_refused" 51 rfl
  obtain ⟨f24, F24⟩ := df 24 "_law_barred" 52 rfl
  obtain ⟨f25, F25⟩ := df 25 "_law_name" 53 rfl
  obtain ⟨f26, F26⟩ := df 26 "_law_names" 54 rfl
  obtain ⟨f27, F27⟩ := df 27 "_law_tokens" 55 rfl
  obtain ⟨f28, F28⟩ := df 28 "_law_tidy" 56 rfl
  obtain ⟨f29, F29⟩ := df 29 "_law_nested" 57 rfl
  obtain ⟨f30, F30⟩ := df 30 "_law_spell" 58 rfl
  obtain ⟨f31, F31⟩ := df 31 "_law_all" 59 rfl
  obtain ⟨f32, F32⟩ := df 32 "_law_done" 60 rfl
  obtain ⟨f33, F33⟩ := df 33 "_law_put" 61 rfl
  obtain ⟨f34, F34⟩ := df 34 "_law_texts" 62 rfl
  obtain ⟨f35, F35⟩ := df 35 "_law_walked" 63 rfl
  obtain ⟨f36, F36⟩ := df 36 "_law_led" 64 rfl
  obtain ⟨fd, F⟩ := df 37 "law" 65 rfl
  obtain ⟨g0, G0⟩ := dm 38 "__init__" "Tree.__init__" 0 rfl
  obtain ⟨g1, G1⟩ := dm 39 "halves" "Tree.halves" 3 rfl
  obtain ⟨g2, G2⟩ := dm 40 "__eq__" "Tree.__eq__" 5 rfl
  have mk := He.mkr_ok (c.t.d.facts (f := .mkr "Tree") (mem_at 88 rfl))
  have me1 := He.meth_ok (c.t.d.facts (f := .meth "Tree" "halves") (mem_at 89 rfl))
  have me2 := He.meth_ok (c.t.d.facts (f := .meth "Tree" "__eq__") (mem_at 90 rfl))
  have b := FunD.bindsA (ps := ["script"]) F fun _ _ _ _ _ _ us hl => match us, hl with | [_], _ => rfl
  refine ⟨fd, fun s v => b s [v] rfl, fun base _ _ TB => ?_⟩
  have c0 := ok_check (P := P) (w := w) (base := base) m F0 (gl _ (mem_at 0 rfl))
  have c1 := ok_words (P := P) (w := w) (base := base) m F1 (gl _ (mem_at 1 rfl))
  have c2 := ok_tree_words m c1 F2 (gl _ (mem_at 2 rfl))
  have c3 := ok_is_value (P := P) (w := w) (base := base) m F3 (gl _ (mem_at 3 rfl))
  have c4 := ok_is_name m c3 F4 (gl _ (mem_at 4 rfl))
  have c5 := ok_tree_names m c4 F5 (gl _ (mem_at 5 rfl))
  have c6 := ok_tree_text (P := P) (w := w) (base := base) m F6 (gl _ (mem_at 6 rfl))
  have c7 := ok_tree_halves (P := P) (w := w) (base := base) m dk F7 (gl _ (mem_at 7 rfl))
  have ct := ok_init m tc mk c0 c2 c5 c7 G0
  have ch := ok_halves (P := P) (w := w) (base := base) tc me1 N G1
  have c8 := ok_rc (P := P) (w := w) (base := base) m dk F8 (gl _ (mem_at 8 rfl))
  have c9 := ok_cd m dk tc ch F9 (gl _ (mem_at 9 rfl))
  have c10 := ok_xd m dk c8 F10 (gl _ (mem_at 10 rfl))
  have c11 := ok_od m c10 F11 (gl _ (mem_at 11 rfl))
  have c12 := ok_turned m dk ch F12 (gl _ (mem_at 12 rfl))
  have c13 := ok_turn m tc B c2 c5 c6 c12 ct F13 (gl _ (mem_at 13 rfl))
  have e2 := ok_eq2 (P := P) (w := w) (base := base) m tc ti G2
  have c14 := ok_tb m tc U c9 c11 e2 me2.at_ me2.fn (G2.bindsN fun _ _ _ _ _ _ us hl => match us, hl with | [_, _], _ => rfl) F14 (gl _ (mem_at 14 rfl))
  have c15 := ok_bag (P := P) (w := w) (base := base) m F15 (gl _ (mem_at 15 rfl))
  have c16 := ok_draw (P := P) (w := w) (base := base) m F16 (gl _ (mem_at 16 rfl))
  have c17 := ok_pick m c16 F17 (gl _ (mem_at 17 rfl))
  have c18 := ok_mix m c16 F18 (gl _ (mem_at 18 rfl))
  have c19 := ok_like (P := P) (w := w) (base := base) m F19 (gl _ (mem_at 19 rfl)) 3
  have c20 := ok_errU (P := P) (w := w) (base := base) m U F20 (gl _ (mem_at 20 rfl))
  have c21 := ok_try U c20 F21 (gl _ (mem_at 21 rfl)) 26 (by decide)
  have c22 := ok_badU (P := P) (w := w) (base := base) m F22 (gl _ (mem_at 22 rfl))
  have c23 := ok_refused c19 26 c21 (by decide) F23 (gl _ (mem_at 23 rfl))
  have c24 := ok_barred (P := P) (w := w) (base := base) m F24 (gl _ (mem_at 24 rfl))
  have c25 := ok_name m c17 c24 F25 (gl _ (mem_at 25 rfl))
  have c26 := ok_names m dk c25 F26 (gl _ (mem_at 26 rfl))
  have c27 := ok_tokens (P := P) (w := w) (base := base) m F27 (gl _ (mem_at 27 rfl))
  have c28 := ok_tidy m c27 F28 (gl _ (mem_at 28 rfl))
  have c29 := ok_nested m c16 F29 (gl _ (mem_at 29 rfl)) 20
  have c30 := ok_spell (P := P) (w := w) (base := base) m F30 (gl _ (mem_at 30 rfl)) 24
  have c31 := ok_all (P := P) (w := w) (base := base) m F31 (gl _ (mem_at 31 rfl)) 24
  have c32 := ok_done (P := P) (w := w) (base := base) m F32 (gl _ (mem_at 32 rfl))
  have c33 := ok_put (P := P) (w := w) (base := base) m F33 (gl _ (mem_at 33 rfl)) 24
  have c34 := ok_texts (P := P) (w := w) (base := base) m F34 (gl _ (mem_at 34 rfl)) 24
  have c35 := ok_walked m c27 c28 c34 c32 c33 F35 (gl _ (mem_at 35 rfl))
  have c36 := ok_led m tc c30 c35 c19 ct c13 c14 F36 (gl _ (mem_at 36 rfl))
  exact ok_law m c15 c16 c17 c26 c29 c18 c31 c32 c33 c36 c22 c30 ct c14 c23 F rfl TB
end
end W22
open PySem PySem.W PySem.Calls PyProof.Rows
theorem PySem.Challenge.cw_waysacross_k22_whole_turns_between_holds : PySem.Challenge.rw_waysacross_k22_whole_turns_between.Holds := by
  w_on; o_law
  refine HandSHeadRun.head_any (r := OpenLaw.row PySem.Challenge.rw_waysacross_k22_whole_turns_between) (q := view (OpenLaw.row PySem.Challenge.rw_waysacross_k22_whole_turns_between).prog [65]) (H := W22.hkS) (ob := W22.ob) (M := 9000) (loose := W22.loose) (d := HandSHeadRun.topDef (OpenLaw.row PySem.Challenge.rw_waysacross_k22_whole_turns_between).prog 65) (kwd := []) W22.ob_eq
    (by kernel_rfl) (fun s => by kernel_rfl) W22.run (by kernel_rfl) (by kernel_rfl) (by kernel_rfl) (by rfl) (by first | assumption | decide +kernel) (by decide +kernel) ⟨rfl, rfl, rfl, rfl, rfl, by decide +kernel⟩ ?hw ?hc
  case hw => w_witness2
  case hc =>
    refine LamX.walk_ofTsE (l := PySem.Challenge.rw_waysacross_k22_whole_turns_between) (n := 63) (k := 31) (x := "script") (CX := fun _ => C8.CX0) rfl (by decide) (by kernel_rfl) ⟨rfl, by decide, by decide⟩ ?F (fun _ _ _ _ _ z => z)
    intro w mg fa h Y G hmg0
    obtain ⟨K, KX, c⟩ := Y
    have hmg : mg ("law" : PySem.Str) = some (.ref fa) := by
      have e : (HandSHeadRun.topDef (OpenLaw.row PySem.Challenge.rw_waysacross_k22_whole_turns_between).prog 65).name = ("law" : PySem.Str) := by kernel_rfl
      rw [← e]
      exact hmg0
    have e := hmg.symm.trans (He.glo_ok KX G (c.t.d.facts (f := .glo "law") (W22.mem_at 37 rfl)))
    cases e
    obtain ⟨fd, hb, hF⟩ := W22.facts (P := (PySem.Challenge.rw_waysacross_k22_whole_turns_between).prog) KX G c
    have m1 : (("law", none) : He.Defn) ∈ W22.tfs := List.mem_cons_self
    refine ⟨K, KX, fd, [He.cT K ("law", none)], W22.spLaw K (He.cT K ("law", none)).2, ?_, ?_, ?_, hb, ?_, ?_⟩
    · intro p hp
      rw [List.mem_singleton.mp hp]
      exact c.empty _ m1
    · intro p hp
      rw [List.mem_singleton.mp hp]
      exact c.out _ m1
    · intro p hp
      rw [List.mem_singleton.mp hp]
      exact PySem.W.codeHd_of_K KX (c.hd _ m1)
    · intro H a ns _ _ hT hS
      exact ⟨a, ns, rfl, hS, hT _ List.mem_cons_self, fun _ => rfl⟩
    · intro base KB GB TB
      exact hF base KB GB (TB _ List.mem_cons_self)

